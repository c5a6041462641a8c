import PyProof.Rows.All
import Wide.All
import OpenK.AllK
import Wide.FinOn
import KE.KStateDown
import Lean
import HandS.ForMost
import HandS.Defaults
import HandS.Exc
import HandS.Head0
import HandS.Head1
import HandS.Head2
import HandS.HeadEnd
import HandS.HeadHook1
import HandS.HeadHook2
import PySem.Challenge.RW_lanekeepers_k26_whole_loads_towards
import HandS.Walk
import HandS.IsInst
import HandS.Style
import HandS.Deep
import HandS.TupSets
import HandS.Conv
import HandS.Codes
import KE.SortData
import KE.DataCmp
import KE.DataEq
set_option Elab.async false
set_option linter.all false
set_option maxRecDepth 100000
set_option maxHeartbeats 4000000
namespace K26
open PySem PySem.Spec PyProof.Rows L2
def top (i : Nat) : Stmt := PySem.Challenge.pw_lanekeepers_k26_whole_loads_towards.main.body.getD i (.Pass ⟨0, 0, 0, 0⟩)
abbrev s_is_integer : Stmt := top 13
abbrev s_is_count : Stmt := top 14
abbrev s_is_list : Stmt := top 15
abbrev s_lane_in : Stmt := top 19
abbrev s_ties_of : Stmt := top 20
abbrev s_is_whole : Stmt := top 21
abbrev s_ahead_of : Stmt := top 22
abbrev s_lanes_in : Stmt := top 23
abbrev s_Country_init : Stmt := inClass (top 24) 0
abbrev s_beside : Stmt := top 25
abbrev s_yards_in : Stmt := top 26
abbrev s_is_place : Stmt := top 27
abbrev s_is_yard : Stmt := top 28
abbrev s_want_country : Stmt := top 29
abbrev s_want_yard : Stmt := top 30
abbrev s_pairs_at : Stmt := top 35
abbrev s_is_some_of : Stmt := top 36
abbrev s_load_in : Stmt := top 37
abbrev s_want_load : Stmt := top 38
abbrev s_plus_cart : Stmt := top 39
abbrev s_is_end_for : Stmt := top 40
abbrev s_is_bound_for : Stmt := top 41
abbrev s_alternative_in : Stmt := top 42
abbrev s_keeps : Stmt := top 43
abbrev s_stands_by_one : Stmt := top 44
abbrev s_stands_by : Stmt := top 45
abbrev s_book_in : Stmt := top 46
abbrev s_want_book : Stmt := top 47
abbrev s_told_book : Stmt := top 48
abbrev s_want_yard_of : Stmt := top 49
abbrev s_want_neighbour : Stmt := top 51
abbrev s_Web_init : Stmt := inClass (top 53) 0
abbrev s_book_at : Stmt := top 54
abbrev s_country_of : Stmt := top 55
abbrev s_want_web : Stmt := top 56
abbrev s_standing_by : Stmt := top 58
abbrev s_are_refused : Stmt := top 59
abbrev s_pairs_towards : Stmt := top 60
abbrev s_towards : Stmt := top 61
abbrev s_heaviest_towards : Stmt := top 62
abbrev s_is_load_within : Stmt := top 63
abbrev s_let_at : Stmt := top 64
abbrev s_want_web_yard : Stmt := top 65
abbrev s_is_at_most : Stmt := top 66
abbrev s_lets : Stmt := top 67
abbrev s_loads_towards : Stmt := top 68
abbrev s_heaviest : Stmt := top 69
abbrev s_law_pot : Stmt := top 71
abbrev s_law_draw : Stmt := top 72
abbrev s_law_pick : Stmt := top 73
abbrev s_law_mixed : Stmt := top 74
abbrev s_law_lanes : Stmt := top 75
abbrev s_law_renumbered : Stmt := top 76
abbrev s_law_beside : Stmt := top 77
abbrev s_law_yards : Stmt := top 78
abbrev s_law_pairs : Stmt := top 79
abbrev s_law_book : Stmt := top 80
abbrev s_law_many : Stmt := top 81
abbrev s_law_stands : Stmt := top 82
abbrev s_law_more : Stmt := top 83
abbrev s_law_standing : Stmt := top 84
abbrev s_law_towards : Stmt := top 85
abbrev s_law_heaviest : Stmt := top 86
abbrev s_law_right : Stmt := top 87
abbrev s_law : Stmt := top 88
def d_is_integer : He.DefD := ⟨("is_integer", none), "is_integer", "is_integer", defArgs s_is_integer, defBody s_is_integer, defScope s_is_integer, [], []⟩
def d_is_count : He.DefD := ⟨("is_count", none), "is_count", "is_count", defArgs s_is_count, defBody s_is_count, defScope s_is_count, [], []⟩
def d_is_list : He.DefD := ⟨("is_list", none), "is_list", "is_list", defArgs s_is_list, defBody s_is_list, defScope s_is_list, [], []⟩
def d_lane_in : He.DefD := ⟨("lane_in", none), "lane_in", "lane_in", defArgs s_lane_in, defBody s_lane_in, defScope s_lane_in, [], []⟩
def d_ties_of : He.DefD := ⟨("ties_of", none), "ties_of", "ties_of", defArgs s_ties_of, defBody s_ties_of, defScope s_ties_of, [], []⟩
def d_is_whole : He.DefD := ⟨("is_whole", none), "is_whole", "is_whole", defArgs s_is_whole, defBody s_is_whole, defScope s_is_whole, [], []⟩
def d_ahead_of : He.DefD := ⟨("ahead_of", none), "ahead_of", "ahead_of", defArgs s_ahead_of, defBody s_ahead_of, defScope s_ahead_of, [], []⟩
def d_lanes_in : He.DefD := ⟨("lanes_in", none), "lanes_in", "lanes_in", defArgs s_lanes_in, defBody s_lanes_in, defScope s_lanes_in, [], []⟩
def d_Country_init : He.DefD := ⟨("Country", (some "__init__")), "__init__", "Country.__init__", defArgs s_Country_init, defBody s_Country_init, defScope s_Country_init, [], []⟩
def d_beside : He.DefD := ⟨("beside", none), "beside", "beside", defArgs s_beside, defBody s_beside, defScope s_beside, [], []⟩
def d_yards_in : He.DefD := ⟨("yards_in", none), "yards_in", "yards_in", defArgs s_yards_in, defBody s_yards_in, defScope s_yards_in, [], []⟩
def d_is_place : He.DefD := ⟨("is_place", none), "is_place", "is_place", defArgs s_is_place, defBody s_is_place, defScope s_is_place, [], []⟩
def d_is_yard : He.DefD := ⟨("is_yard", none), "is_yard", "is_yard", defArgs s_is_yard, defBody s_is_yard, defScope s_is_yard, [], []⟩
def d_want_country : He.DefD := ⟨("want_country", none), "want_country", "want_country", defArgs s_want_country, defBody s_want_country, defScope s_want_country, [], []⟩
def d_want_yard : He.DefD := ⟨("want_yard", none), "want_yard", "want_yard", defArgs s_want_yard, defBody s_want_yard, defScope s_want_yard, [], []⟩
def d_pairs_at : He.DefD := ⟨("pairs_at", none), "pairs_at", "pairs_at", defArgs s_pairs_at, defBody s_pairs_at, defScope s_pairs_at, [], []⟩
def d_is_some_of : He.DefD := ⟨("is_some_of", none), "is_some_of", "is_some_of", defArgs s_is_some_of, defBody s_is_some_of, defScope s_is_some_of, [], []⟩
def d_load_in : He.DefD := ⟨("load_in", none), "load_in", "load_in", defArgs s_load_in, defBody s_load_in, defScope s_load_in, [], []⟩
def d_want_load : He.DefD := ⟨("want_load", none), "want_load", "want_load", defArgs s_want_load, defBody s_want_load, defScope s_want_load, [], []⟩
def d_plus_cart : He.DefD := ⟨("plus_cart", none), "plus_cart", "plus_cart", defArgs s_plus_cart, defBody s_plus_cart, defScope s_plus_cart, [], []⟩
def d_is_end_for : He.DefD := ⟨("is_end_for", none), "is_end_for", "is_end_for", defArgs s_is_end_for, defBody s_is_end_for, defScope s_is_end_for, [], []⟩
def d_is_bound_for : He.DefD := ⟨("is_bound_for", none), "is_bound_for", "is_bound_for", defArgs s_is_bound_for, defBody s_is_bound_for, defScope s_is_bound_for, [], []⟩
def d_alternative_in : He.DefD := ⟨("alternative_in", none), "alternative_in", "alternative_in", defArgs s_alternative_in, defBody s_alternative_in, defScope s_alternative_in, [], []⟩
def d_keeps : He.DefD := ⟨("keeps", none), "keeps", "keeps", defArgs s_keeps, defBody s_keeps, defScope s_keeps, [], []⟩
def d_stands_by_one : He.DefD := ⟨("stands_by_one", none), "stands_by_one", "stands_by_one", defArgs s_stands_by_one, defBody s_stands_by_one, defScope s_stands_by_one, [], []⟩
def d_stands_by : He.DefD := ⟨("stands_by", none), "stands_by", "stands_by", defArgs s_stands_by, defBody s_stands_by, defScope s_stands_by, [], []⟩
def d_book_in : He.DefD := ⟨("book_in", none), "book_in", "book_in", defArgs s_book_in, defBody s_book_in, defScope s_book_in, [], []⟩
def d_want_book : He.DefD := ⟨("want_book", none), "want_book", "want_book", defArgs s_want_book, defBody s_want_book, defScope s_want_book, [], []⟩
def d_told_book : He.DefD := ⟨("told_book", none), "told_book", "told_book", defArgs s_told_book, defBody s_told_book, defScope s_told_book, [], []⟩
def d_want_yard_of : He.DefD := ⟨("want_yard_of", none), "want_yard_of", "want_yard_of", defArgs s_want_yard_of, defBody s_want_yard_of, defScope s_want_yard_of, [], []⟩
def d_want_neighbour : He.DefD := ⟨("want_neighbour", none), "want_neighbour", "want_neighbour", defArgs s_want_neighbour, defBody s_want_neighbour, defScope s_want_neighbour, [], []⟩
def d_Web_init : He.DefD := ⟨("Web", (some "__init__")), "__init__", "Web.__init__", defArgs s_Web_init, defBody s_Web_init, defScope s_Web_init, [], []⟩
def d_book_at : He.DefD := ⟨("book_at", none), "book_at", "book_at", defArgs s_book_at, defBody s_book_at, defScope s_book_at, [], []⟩
def d_country_of : He.DefD := ⟨("country_of", none), "country_of", "country_of", defArgs s_country_of, defBody s_country_of, defScope s_country_of, [], []⟩
def d_want_web : He.DefD := ⟨("want_web", none), "want_web", "want_web", defArgs s_want_web, defBody s_want_web, defScope s_want_web, [], []⟩
def d_standing_by : He.DefD := ⟨("standing_by", none), "standing_by", "standing_by", defArgs s_standing_by, defBody s_standing_by, defScope s_standing_by, [.non], []⟩
def d_are_refused : He.DefD := ⟨("are_refused", none), "are_refused", "are_refused", defArgs s_are_refused, defBody s_are_refused, defScope s_are_refused, [], []⟩
def d_pairs_towards : He.DefD := ⟨("pairs_towards", none), "pairs_towards", "pairs_towards", defArgs s_pairs_towards, defBody s_pairs_towards, defScope s_pairs_towards, [], []⟩
def d_towards : He.DefD := ⟨("towards", none), "towards", "towards", defArgs s_towards, defBody s_towards, defScope s_towards, [], []⟩
def d_heaviest_towards : He.DefD := ⟨("heaviest_towards", none), "heaviest_towards", "heaviest_towards", defArgs s_heaviest_towards, defBody s_heaviest_towards, defScope s_heaviest_towards, [], []⟩
def d_is_load_within : He.DefD := ⟨("is_load_within", none), "is_load_within", "is_load_within", defArgs s_is_load_within, defBody s_is_load_within, defScope s_is_load_within, [], []⟩
def d_let_at : He.DefD := ⟨("let_at", none), "let_at", "let_at", defArgs s_let_at, defBody s_let_at, defScope s_let_at, [], []⟩
def d_want_web_yard : He.DefD := ⟨("want_web_yard", none), "want_web_yard", "want_web_yard", defArgs s_want_web_yard, defBody s_want_web_yard, defScope s_want_web_yard, [], []⟩
def d_is_at_most : He.DefD := ⟨("is_at_most", none), "is_at_most", "is_at_most", defArgs s_is_at_most, defBody s_is_at_most, defScope s_is_at_most, [], []⟩
def d_lets : He.DefD := ⟨("lets", none), "lets", "lets", defArgs s_lets, defBody s_lets, defScope s_lets, [], []⟩
def d_loads_towards : He.DefD := ⟨("loads_towards", none), "loads_towards", "loads_towards", defArgs s_loads_towards, defBody s_loads_towards, defScope s_loads_towards, [], []⟩
def d_heaviest : He.DefD := ⟨("heaviest", none), "heaviest", "heaviest", defArgs s_heaviest, defBody s_heaviest, defScope s_heaviest, [], []⟩
def d_law_pot : He.DefD := ⟨("_law_pot", none), "_law_pot", "_law_pot", defArgs s_law_pot, defBody s_law_pot, defScope s_law_pot, [], []⟩
def d_law_draw : He.DefD := ⟨("_law_draw", none), "_law_draw", "_law_draw", defArgs s_law_draw, defBody s_law_draw, defScope s_law_draw, [], []⟩
def d_law_pick : He.DefD := ⟨("_law_pick", none), "_law_pick", "_law_pick", defArgs s_law_pick, defBody s_law_pick, defScope s_law_pick, [], []⟩
def d_law_mixed : He.DefD := ⟨("_law_mixed", none), "_law_mixed", "_law_mixed", defArgs s_law_mixed, defBody s_law_mixed, defScope s_law_mixed, [], []⟩
def d_law_lanes : He.DefD := ⟨("_law_lanes", none), "_law_lanes", "_law_lanes", defArgs s_law_lanes, defBody s_law_lanes, defScope s_law_lanes, [], []⟩
def d_law_renumbered : He.DefD := ⟨("_law_renumbered", none), "_law_renumbered", "_law_renumbered", defArgs s_law_renumbered, defBody s_law_renumbered, defScope s_law_renumbered, [], []⟩
def d_law_beside : He.DefD := ⟨("_law_beside", none), "_law_beside", "_law_beside", defArgs s_law_beside, defBody s_law_beside, defScope s_law_beside, [], []⟩
def d_law_yards : He.DefD := ⟨("_law_yards", none), "_law_yards", "_law_yards", defArgs s_law_yards, defBody s_law_yards, defScope s_law_yards, [], []⟩
def d_law_pairs : He.DefD := ⟨("_law_pairs", none), "_law_pairs", "_law_pairs", defArgs s_law_pairs, defBody s_law_pairs, defScope s_law_pairs, [], []⟩
def d_law_book : He.DefD := ⟨("_law_book", none), "_law_book", "_law_book", defArgs s_law_book, defBody s_law_book, defScope s_law_book, [], []⟩
def d_law_many : He.DefD := ⟨("_law_many", none), "_law_many", "_law_many", defArgs s_law_many, defBody s_law_many, defScope s_law_many, [], []⟩
def d_law_stands : He.DefD := ⟨("_law_stands", none), "_law_stands", "_law_stands", defArgs s_law_stands, defBody s_law_stands, defScope s_law_stands, [], []⟩
def d_law_more : He.DefD := ⟨("_law_more", none), "_law_more", "_law_more", defArgs s_law_more, defBody s_law_more, defScope s_law_more, [], []⟩
def d_law_standing : He.DefD := ⟨("_law_standing", none), "_law_standing", "_law_standing", defArgs s_law_standing, defBody s_law_standing, defScope s_law_standing, [], []⟩
def d_law_towards : He.DefD := ⟨("_law_towards", none), "_law_towards", "_law_towards", defArgs s_law_towards, defBody s_law_towards, defScope s_law_towards, [], []⟩
def d_law_heaviest : He.DefD := ⟨("_law_heaviest", none), "_law_heaviest", "_law_heaviest", defArgs s_law_heaviest, defBody s_law_heaviest, defScope s_law_heaviest, [], []⟩
def d_law_right : He.DefD := ⟨("_law_right", none), "_law_right", "_law_right", defArgs s_law_right, defBody s_law_right, defScope s_law_right, [], []⟩
def d_law : He.DefD := ⟨("law", none), "law", "law", defArgs s_law, defBody s_law, defScope s_law, [], []⟩
def fn : List He.DefD := [d_is_integer, d_is_count, d_is_list, d_lane_in, d_ties_of, d_is_whole, d_ahead_of, d_lanes_in, d_Country_init, d_beside, d_yards_in, d_is_place, d_is_yard, d_want_country, d_want_yard, d_pairs_at, d_is_some_of, d_load_in, d_want_load, d_plus_cart, d_is_end_for, d_is_bound_for, d_alternative_in, d_keeps, d_stands_by_one, d_stands_by, d_book_in, d_want_book, d_told_book, d_want_yard_of, d_want_neighbour, d_Web_init, d_book_at, d_country_of, d_want_web, d_standing_by, d_are_refused, d_pairs_towards, d_towards, d_heaviest_towards, d_is_load_within, d_let_at, d_want_web_yard, d_is_at_most, d_lets, d_loads_towards, d_heaviest, d_law_pot, d_law_draw, d_law_pick, d_law_mixed, d_law_lanes, d_law_renumbered, d_law_beside, d_law_yards, d_law_pairs, d_law_book, d_law_many, d_law_stands, d_law_more, d_law_standing, d_law_towards, d_law_heaviest, d_law_right, d_law]
def fa : List He.Fa := [.glo "is_integer", .glo "is_count", .glo "is_list", .glo "lane_in", .glo "ties_of", .glo "is_whole", .glo "ahead_of", .glo "lanes_in", .glo "beside", .glo "yards_in", .glo "is_place", .glo "is_yard", .glo "want_country", .glo "want_yard", .glo "pairs_at", .glo "is_some_of", .glo "load_in", .glo "want_load", .glo "plus_cart", .glo "is_end_for", .glo "is_bound_for", .glo "alternative_in", .glo "keeps", .glo "stands_by_one", .glo "stands_by", .glo "book_in", .glo "want_book", .glo "told_book", .glo "want_yard_of", .glo "want_neighbour", .glo "book_at", .glo "country_of", .glo "want_web", .glo "standing_by", .glo "are_refused", .glo "pairs_towards", .glo "towards", .glo "heaviest_towards", .glo "is_load_within", .glo "let_at", .glo "want_web_yard", .glo "is_at_most", .glo "lets", .glo "loads_towards", .glo "heaviest", .glo "_law_pot", .glo "_law_draw", .glo "_law_pick", .glo "_law_mixed", .glo "_law_lanes", .glo "_law_renumbered", .glo "_law_beside", .glo "_law_yards", .glo "_law_pairs", .glo "_law_book", .glo "_law_many", .glo "_law_stands", .glo "_law_more", .glo "_law_standing", .glo "_law_towards", .glo "_law_heaviest", .glo "_law_right", .glo "law", .glo "Country", .cls "Country", .mkr "Country", .glo "Web", .cls "Web", .mkr "Web", .noat "Country" "own_lanes", .noat "Country" "own_ties", .noat "Country" "own_ahead", .noat "Web" "own_country", .noat "Web" "own_books", .int "MOST_YARDS" 7, .int "MOST_LANES" 4, .int "MOST_PLACES" 6, .int "MOST_BOUNDS" 6, .int "MOST_ALTERNATIVES" 4, .free "isinstance", .free "int", .free "bool", .free "list", .free "tuple", .free "len", .free "all", .free "any", .free "min", .free "max", .free "range", .free "sorted", .free "set", .free "enumerate", .free "zip", .free "sum", .free "abs", .free "divmod", .free "repr"]
def lo0 : List PySem.Str := ["_wall", "LaneError", "InvalidCountry", "InvalidPlace", "InvalidWeb", "InvalidYard", "InvalidBook", "InvalidBooks", "InvalidLanes", "InvalidLoad", "InvalidTarget", "is_integer", "is_count", "is_list", "MOST_YARDS", "MOST_LANES", "lane_in", "ties_of", "is_whole", "ahead_of", "lanes_in", "Country", "beside", "yards_in", "is_place", "is_yard", "want_country", "want_yard", "MOST_PLACES", "MOST_BOUNDS"]
def lo1 : List PySem.Str := ["MOST_ALTERNATIVES", "pairs_at", "is_some_of", "load_in", "want_load", "plus_cart", "is_end_for", "is_bound_for", "alternative_in", "keeps", "stands_by_one", "stands_by", "book_in", "want_book", "told_book", "want_yard_of", "want_neighbour", "Web", "book_at", "country_of", "want_web", "standing_by", "are_refused", "pairs_towards", "towards", "heaviest_towards", "is_load_within", "let_at", "want_web_yard", "is_at_most"]
def lo2 : List PySem.Str := ["lets", "loads_towards", "heaviest", "_law_pot", "_law_draw", "_law_pick", "_law_mixed", "_law_lanes", "_law_renumbered", "_law_beside", "_law_yards", "_law_pairs", "_law_book", "_law_many", "_law_stands", "_law_more", "_law_standing", "_law_towards", "_law_heaviest", "_law_right"]
def loose : List PySem.Str := lo0 ++ lo1 ++ lo2
abbrev R : PySem.W.OpenRow := PySem.W.OpenLaw.row PySem.Challenge.rw_lanekeepers_k26_whole_loads_towards
/-- what isinstance asks of a class -/
structure IsOk (K : PySem.W.Frag) (C : Addr) : Prop where
  ha : PySem.W.findIn K (.ref C) "__class__" = some (some (.builtin "object.__class__"))
  hn : PySem.W.specialIn K (.builtin "object.__class__") "__get__" = some (some (.builtin "getset_descriptor.__get__"))
  ht : PySem.W.takesIn K (.builtin "object.__class__") = some true
  hm : PySem.W.mroIn K C (.type "object") = some true
  hk : PySem.W.kitOne K (.ref C) (.ref C) = some true
def isB (K : PySem.W.Frag) (C : Addr) : Bool :=
  He.eqO (PySem.W.findIn K (.ref C) "__class__") (some (some (.builtin "object.__class__"))) && (He.eqO (PySem.W.specialIn K (.builtin "object.__class__") "__get__") (some (some (.builtin "getset_descriptor.__get__"))) &&
    (decide (PySem.W.takesIn K (.builtin "object.__class__") = some true) && (decide (PySem.W.mroIn K C (.type "object") = some true) && decide (PySem.W.kitOne K (.ref C) (.ref C) = some true))))
theorem isB_ok {K : PySem.W.Frag} {C : Addr} (h : isB K C = true) : IsOk K C := by
  obtain ⟨h1, h⟩ := He.ba h
  obtain ⟨h2, h⟩ := He.ba h
  obtain ⟨h3, h⟩ := He.ba h
  obtain ⟨h4, h5⟩ := He.ba h
  exact ⟨He.eqO_ok h1, He.eqO_ok h2, of_decide_eq_true h3, of_decide_eq_true h4, of_decide_eq_true h5⟩
def isBs (K : PySem.W.Frag) : Bool := isB K (He.ga K "Country") && isB K (He.ga K "Web")
abbrev AlE : Type := He.AlD × Bool
/-- the addresses that the module's names reach in n steps, each once (seen: a number's bits) -/
def uqA : List Addr → Nat → List Addr
  | [], _ => []
  | a :: as, m => match Nat.beq (Nat.land (Nat.shiftRight m a) 1) 1 with
    | true => uqA as m
    | false => a :: uqA as (Nat.lor m (Nat.shiftLeft 1 a))
def mkA : List Addr → Nat → Nat
  | [], m => m
  | a :: as, m => mkA as (Nat.lor m (Nat.shiftLeft 1 a))
def nxA (g : Addr → Option Obj) (as : List Addr) : List Addr := as.flatMap fun a => match g a with
  | some o => He.refsD o
  | none => []
def bfA (g : Addr → Option Obj) : Nat → List Addr → Nat → List Addr
  | 0, as, _ => as
  | n + 1, as, m => as ++ bfA g n (uqA (nxA g as) m) (mkA (uqA (nxA g as) m) m)
def asB (g : Addr → Option Obj) : List Addr := bfA g 5 [mainGlobals] (Nat.shiftLeft 1 mainGlobals)
def obE (g : Addr → Option Obj) : AlE := (He.obsD fa fn (He.frG g (asB g)), isBs (He.frG g (asB g)))
def hk : PySem.W.Hook where
  α := AlE
  obs := fun st => obE st.heap.get?
  val := fun _ => (He.valD fn, true)
  says := fun _ hp => ∃ K : PySem.W.Frag, K.In hp ∧ He.SaysD fa fn K ∧ isBs K = true
  of := fun _ _ q => ⟨_, He.frG_in, congrArg (fun z : AlE => z.1) q, congrArg (fun z : AlE => z.2) q⟩
  keeps := fun _ _ _ ⟨K, kin, c⟩ kp => ⟨K, PySem.W.Frag.In.keeps kin kp, c⟩
def ob (st : PySem.W.SharedT) : AlE := obE (HandSHeadRun.getT st)
theorem ob_eq (st : PySem.W.SharedT) : ob st = hk.obs st.abs := by
  have q : HandSHeadRun.getT st = st.abs.heap.get? := funext (HandSHeadRun.getT_eq st)
  unfold ob
  rw [q]
  rfl
set_option maxHeartbeats 0 in
theorem run (w : World) : HandSHeadRun.RunEq R (PySem.W.view R.prog [88]) hk ob 8000 loose w := by
  intro os
  kernel_rfl
end K26
set_option Elab.async false
set_option linter.all false
set_option maxRecDepth 100000
set_option maxHeartbeats 1000000
namespace K26
open PySem PySem.Spec PyProof.Rows L2

/-! ## data as trees -/
inductive D where
  | non
  | bl (b : Bool)
  | int (i : Int)
  | str (x : Str)
  | lst (ds : List D)
  | new (ds : List D)
  | tup (ds : List D)
  | obj (k : Nat) (ds : List D)
mutual
def D.py : D → PyData
  | .non => .none
  | .bl b => .bool b
  | .int i => .int i
  | .str x => .str x
  | .lst ds => .list (D.pys ds)
  | .new ds => .list (D.pys ds)
  | .tup ds => .tuple (D.pys ds)
  | .obj _ _ => .none
def D.pys : List D → List PyData
  | [] => []
  | d :: ds => d.py :: D.pys ds
end
theorem pys_map : ∀ ds : List D, D.pys ds = ds.map D.py
  | [] => rfl
  | d :: ds => congrArg (d.py :: ·) (pys_map ds)
mutual
/-- no object within -/
def D.flat : D → Bool
  | .obj _ _ => false
  | .lst ds => D.flats ds
  | .new ds => D.flats ds
  | .tup ds => D.flats ds
  | _ => true
def D.flats : List D → Bool
  | [] => true
  | d :: ds => d.flat && D.flats ds
end
theorem flats_all : ∀ ds : List D, D.flats ds = ds.all D.flat
  | [] => rfl
  | d :: ds => congrArg (d.flat && ·) (flats_all ds)
mutual
/-- no tagged list within -/
def D.old : D → Bool
  | .new _ => false
  | .lst ds => D.olds ds
  | .tup ds => D.olds ds
  | .obj _ ds => D.olds ds
  | _ => true
def D.olds : List D → Bool
  | [] => true
  | d :: ds => d.old && D.olds ds
end
theorem olds_all : ∀ ds : List D, D.olds ds = ds.all D.old
  | [] => rfl
  | d :: ds => congrArg (d.old && ·) (olds_all ds)

structure Gx where
  K : PySem.W.Frag
  cs : Nat → Addr
def fln : Nat → List Str
  | 0 => ["own_lanes", "own_ties", "own_ahead"]
  | _ => ["own_country", "own_books"]

def Ex (H H' : Hp) : Prop := ∀ a o, H a = some o → H' a = some o
theorem Ex.refl (H : Hp) : Ex H H := fun _ _ h => h
theorem Ex.trans {H H1 H2 : Hp} (a : Ex H H1) (b : Ex H1 H2) : Ex H H2 := fun x o h => b x o (a x o h)
theorem Ex.upd {H : Hp} {p : Addr} {o : HO} (h : H p = none) : Ex H (upd H p o) := fun a u e => (upd_ne (ne_of_none e h)).trans e
theorem Ex.upd2 {B H : Hp} {p : Addr} {o : HO} (e : Ex B H) (h : B p = none) : Ex B (L2.upd H p o) := fun a u q => (upd_ne (ne_of_none q h)).trans (e a u q)
theorem Ex.both {B H : Hp} {p : Addr} {o : HO} (e : Ex B H) : Ex (L2.upd B p o) (L2.upd H p o) := fun a u q => by
  by_cases h : a = p
  · subst h
    rw [upd_same] at q ⊢
    exact q
  · rw [upd_ne h] at q ⊢
    exact e a u q
theorem Ex.low {B H : Hp} {p : Addr} {o : HO} (e : Ex B H) (h : H p = some o) : Ex (L2.upd B p o) H := fun a u q => by
  by_cases z : a = p
  · subst z
    rw [upd_same] at q
    rw [h]
    exact q
  · rw [upd_ne z] at q
    exact e a u q
theorem Ex.none {H H' : Hp} (e : Ex H H') {a : Addr} (h : H' a = none) : H a = none := by
  cases q : H a with
  | none => rfl
  | some o =>
    rw [e a o q] at h
    cases h
theorem some_of_ne {H : Hp} {a : Addr} (h : H a ≠ none) : ∃ o, H a = some o := by
  cases q : H a with
  | none => exact absurd q h
  | some o => exact ⟨o, rfl⟩
theorem ne_none {H : Hp} {a : Addr} {o : HO} (h : H a = some o) : H a ≠ none := by
  rw [h]
  exact fun z => nomatch z

section
variable (G : Gx) (F : Addr → Prop) (B : Hp)
mutual
/-- the value v stands for the datum, over the part B of the heap; tagged lists lie in F -/
def Rep : D → V → Prop
  | .non, v => v = .non
  | .bl b, v => v = .bl b
  | .int i, v => v = .int i
  | .str x, v => v = .str x
  | .lst ds, v => ∃ a xs, v = .ref a ∧ B a = some (.lst xs) ∧ Reps ds xs
  | .new ds, v => ∃ a xs, v = .ref a ∧ F a ∧ B a = some (.lst xs) ∧ Reps ds xs
  | .tup ds, v => ∃ a xs, v = .ref a ∧ B a = some (.tup xs) ∧ Reps ds xs
  | .obj k ds, v => ∃ a dx fs, v = .ref a ∧ B a = some (.ins (G.cs k) dx fs) ∧ fs.map (·.1) = fln k ∧ Reps ds (fs.map (·.2))
def Reps : List D → List V → Prop
  | [], vs => vs = []
  | d :: ds, vs => ∃ v r, vs = v :: r ∧ Rep d v ∧ Reps ds r
end
end
section
variable {G : Gx} {F F' : Addr → Prop} {B B' H : Hp}
mutual
theorem Rep.mono (e : Ex B B') : ∀ (d : D) (v : V), Rep G F B d v → Rep G F B' d v
  | .non, _, h => h
  | .bl _, _, h => h
  | .int _, _, h => h
  | .str _, _, h => h
  | .lst ds, _, ⟨a, xs, h1, h2, h3⟩ => ⟨a, xs, h1, e _ _ h2, Reps.mono e ds xs h3⟩
  | .new ds, _, ⟨a, xs, h1, hf, h2, h3⟩ => ⟨a, xs, h1, hf, e _ _ h2, Reps.mono e ds xs h3⟩
  | .tup ds, _, ⟨a, xs, h1, h2, h3⟩ => ⟨a, xs, h1, e _ _ h2, Reps.mono e ds xs h3⟩
  | .obj k ds, _, ⟨a, dx, fs, h1, h2, h4, h3⟩ => ⟨a, dx, fs, h1, e _ _ h2, h4, Reps.mono e ds _ h3⟩
theorem Reps.mono (e : Ex B B') : ∀ (ds : List D) (vs : List V), Reps G F B ds vs → Reps G F B' ds vs
  | [], _, h => h
  | d :: ds, _, ⟨v, r, h1, h2, h3⟩ => ⟨v, r, h1, Rep.mono e d v h2, Reps.mono e ds r h3⟩
end
mutual
/-- what bears no tag asks nothing of F -/
theorem Rep.anyF : ∀ (d : D) (v : V), d.old = true → Rep G F B d v → Rep G F' B d v
  | .non, _, _, h => h
  | .bl _, _, _, h => h
  | .int _, _, _, h => h
  | .str _, _, _, h => h
  | .lst ds, _, o, ⟨a, xs, h1, h2, h3⟩ => ⟨a, xs, h1, h2, Reps.anyF ds xs o h3⟩
  | .new ds, _, o, _ => nomatch o
  | .tup ds, _, o, ⟨a, xs, h1, h2, h3⟩ => ⟨a, xs, h1, h2, Reps.anyF ds xs o h3⟩
  | .obj k ds, _, o, ⟨a, dx, fs, h1, h2, h4, h3⟩ => ⟨a, dx, fs, h1, h2, h4, Reps.anyF ds _ o h3⟩
theorem Reps.anyF : ∀ (ds : List D) (vs : List V), D.olds ds = true → Reps G F B ds vs → Reps G F' B ds vs
  | [], _, _, h => h
  | d :: ds, _, o, ⟨v, r, h1, h2, h3⟩ => by
    have q : (d.old && D.olds ds) = true := o
    rw [Bool.and_eq_true] at q
    exact ⟨v, r, h1, Rep.anyF d v q.1 h2, Reps.anyF ds r q.2 h3⟩
end
theorem Reps.length : ∀ {ds : List D} {vs : List V}, Reps G F B ds vs → vs.length = ds.length
  | [], _, h => by
    rw [show _ = [] from h]
    rfl
  | d :: ds, _, ⟨v, r, h1, _, h3⟩ => by
    rw [h1, List.length_cons, List.length_cons, Reps.length h3]
theorem Reps.get : ∀ {ds : List D} {vs : List V} {i : Nat} {d : D}, Reps G F B ds vs → ds[i]? = some d → ∃ v, vs[i]? = some v ∧ Rep G F B d v
  | [], _, _, _, _, e => by simp at e
  | d :: ds, _, 0, d', ⟨v, r, h1, h2, h3⟩, e => by
    have q : d = d' := Option.some.inj e
    subst q h1
    exact ⟨v, rfl, h2⟩
  | d :: ds, _, i + 1, d', ⟨v, r, h1, h2, h3⟩, e => by
    subst h1
    exact Reps.get (i := i) h3 e
theorem Reps.app : ∀ {ds es : List D} {vs us : List V}, Reps G F B ds vs → Reps G F B es us → Reps G F B (ds ++ es) (vs ++ us)
  | [], _, _, _, h, k => by
    rw [show _ = [] from h]
    exact k
  | d :: ds, _, _, _, ⟨v, r, h1, h2, h3⟩, k => by
    subst h1
    exact ⟨v, _, rfl, h2, Reps.app h3 k⟩
theorem Reps.one {d : D} {v : V} (h : Rep G F B d v) : Reps G F B [d] [v] := ⟨v, [], rfl, h, rfl⟩
theorem Reps.set : ∀ {ds : List D} {vs : List V} {d : D} {v : V} (i : Nat), Reps G F B ds vs → Rep G F B d v → Reps G F B (ds.set i d) (vs.set i v)
  | [], _, _, _, _, h, _ => by
    rw [show _ = [] from h]
    exact rfl
  | d :: ds, _, _, w, 0, ⟨v, r, h1, h2, h3⟩, k => by
    subst h1
    exact ⟨w, r, rfl, k, h3⟩
  | d :: ds, _, _, _, i + 1, ⟨v, r, h1, h2, h3⟩, k => by
    subst h1
    exact ⟨v, _, rfl, h2, Reps.set i h3 k⟩
theorem Reps.take : ∀ {ds : List D} {vs : List V} (i : Nat), Reps G F B ds vs → Reps G F B (ds.take i) (vs.take i)
  | [], _, i, h => by
    rw [show _ = [] from h]
    simp [Reps]
  | _ :: _, _, 0, _ => rfl
  | d :: ds, _, i + 1, ⟨v, r, h1, h2, h3⟩ => by
    subst h1
    exact ⟨v, _, rfl, h2, Reps.take i h3⟩
theorem Reps.drop : ∀ {ds : List D} {vs : List V} (i : Nat), Reps G F B ds vs → Reps G F B (ds.drop i) (vs.drop i)
  | [], _, i, h => by
    rw [show _ = [] from h]
    simp [Reps]
  | _ :: _, _, 0, h => h
  | d :: ds, _, i + 1, ⟨v, r, h1, h2, h3⟩ => by
    subst h1
    exact Reps.drop i h3
theorem Reps.erase : ∀ {ds : List D} {vs : List V} (i : Nat), Reps G F B ds vs → Reps G F B (ds.eraseIdx i) (vs.eraseIdx i)
  | [], _, i, h => by
    rw [show _ = [] from h]
    simp [Reps]
  | _ :: _, _, 0, ⟨v, r, h1, h2, h3⟩ => by
    subst h1
    exact h3
  | d :: ds, _, i + 1, ⟨v, r, h1, h2, h3⟩ => by
    subst h1
    exact ⟨v, _, rfl, h2, Reps.erase i h3⟩
theorem Reps.dropLast {ds : List D} {vs : List V} (h : Reps G F B ds vs) : Reps G F B ds.dropLast vs.dropLast := by
  rw [List.dropLast_eq_take, List.dropLast_eq_take, h.length]
  exact h.take _
theorem Reps.rep : ∀ {ds : List D} {vs : List V} (k : Nat), Reps G F B ds vs → Reps G F B (List.replicate k ds).flatten (List.replicate k vs).flatten
  | _, _, 0, _ => rfl
  | _, _, k + 1, h => by
    rw [List.replicate_succ, List.replicate_succ, List.flatten_cons, List.flatten_cons]
    exact h.app (Reps.rep k h)
mutual
/-- plain data for the library's deep rules -/
theorem Rep.dp (e : Ex B H) : ∀ (d : D) (v : V), d.flat = true → Rep G F B d v → Dp G.K H v d.py
  | .non, _, _, h => by
    rw [show _ = V.non from h]
    exact .non
  | .bl b, _, _, h => by
    rw [show _ = V.bl b from h]
    exact .bl b
  | .int i, _, _, h => by
    rw [show _ = V.int i from h]
    exact .int i
  | .str x, _, _, h => by
    rw [show _ = V.str x from h]
    exact .str x
  | .lst ds, _, o, ⟨a, xs, h1, h2, h3⟩ => by
    subst h1
    exact .lst (.inl (.inl (e _ _ h2))) (Reps.dp e ds xs o h3)
  | .new ds, _, o, ⟨a, xs, h1, _, h2, h3⟩ => by
    subst h1
    exact .lst (.inl (.inl (e _ _ h2))) (Reps.dp e ds xs o h3)
  | .tup ds, _, o, ⟨a, xs, h1, h2, h3⟩ => by
    subst h1
    exact .tup (.inl (.inl (e _ _ h2))) (Reps.dp e ds xs o h3)
  | .obj _ _, _, o, _ => nomatch o
theorem Reps.dp (e : Ex B H) : ∀ (ds : List D) (vs : List V), D.flats ds = true → Reps G F B ds vs → DpAll G.K H vs (D.pys ds)
  | [], _, _, h => by
    rw [show _ = [] from h]
    exact .nil
  | d :: ds, _, o, ⟨v, r, h1, h2, h3⟩ => by
    have q : (d.flat && D.flats ds) = true := o
    rw [Bool.and_eq_true] at q
    subst h1
    exact .cons (Rep.dp e d v q.1 h2) (Reps.dp e ds r q.2 h3)
end
end
end K26
set_option Elab.async false
set_option linter.all false
set_option maxRecDepth 100000
set_option maxHeartbeats 1000000
namespace K26
open PySem PySem.Spec PyProof.Rows L2

/-! ## slots and worlds -/
def PotOk (i j : Int) : Prop := 0 ≤ i ∧ 0 ≤ j ∧ j < 2147483648
/-- closed: some numbers that are right; open: these -/
def PotIs (n : Option (Int × Int)) (i j : Int) : Prop := match n with
  | none => PotOk i j
  | some (a, b) => i = a ∧ j = b
inductive Sl where
  | no
  | dat (d : D)
  | own (ds : List D)
  | pot (p : Addr) (n : Option (Int × Int))
  | ins (p : Addr) (k : Nat) (ds : List D)
def Sl.isOwn : Sl → Bool
  | .no => false
  | .dat _ => false
  | _ => true
abbrev DS := List Sl
def SlOk (G : Gx) (F O : Addr → Prop) (B H : Hp) : Sl → Option V → Prop
  | .no, _ => True
  | .dat d, v => ∃ x, v = some x ∧ Rep G F B d x
  | .own ds, v => ∃ a xs, v = some (.ref a) ∧ B a = none ∧ O a ∧ F a ∧ H a = some (.lst xs) ∧ Reps G F B ds xs
  | .pot a n, v => ∃ i j, v = some (.ref a) ∧ B a = none ∧ O a ∧ F a ∧ H a = some (.lst [.int i, .int j]) ∧ PotIs n i j
  | .ins a k ds, v => ∃ dx vs, v = some (.ref a) ∧ B a = none ∧ O a ∧ F a ∧ H a = some (.ins (G.cs k) dx vs) ∧ vs.map (·.1) = (fln k).take ds.length ∧ Reps G F B ds (vs.map (·.2))
structure Mat (G : Gx) (F O : Addr → Prop) (δ : DS) (σ : L2.St) (B H : Hp) : Prop where
  ex : Ex B H
  fo : ∀ a, H a = none → O a
  ff : ∀ a, H a = none → F a
  len : δ.length = σ.length
  ok : ∀ (i : Nat) (s : Sl), δ[i]? = some s → ∃ v, σ[i]? = some v ∧ SlOk G F O B H s v
  dj : ∀ (i j : Nat) (s t : Sl) (a : Addr), i ≠ j → δ[i]? = some s → δ[j]? = some t → s.isOwn = true → t.isOwn = true → σ[i]? = some (some (.ref a)) → σ[j]? = some (some (.ref a)) → False
/-- from one world to a later one: what O does not name is as it was -/
structure Go (O : Addr → Prop) (B H B' H' : Hp) : Prop where
  eb : Ex B B'
  kp : ∀ a o, H a = some o → B a = none → ¬ O a → H' a = some o ∧ B' a = none
  al : ∀ a, H' a = none → H a = none
/-- nothing but new objects -/
structure Nw (B H B' H' : Hp) : Prop where
  eb : Ex B B'
  ex : Ex B' H'
  hh : Ex H H'
  fr : ∀ a, H a ≠ none → B a = none → B' a = none

theorem Go.refl (O : Addr → Prop) (B H : Hp) : Go O B H B H := ⟨.refl B, fun _ _ h b _ => ⟨h, b⟩, fun _ h => h⟩
theorem Go.trans {O : Addr → Prop} {B H B1 H1 B2 H2 : Hp} (a : Go O B H B1 H1) (b : Go O B1 H1 B2 H2) : Go O B H B2 H2 :=
  ⟨a.eb.trans b.eb, fun x o h hb hn => by
    obtain ⟨h1, h2⟩ := a.kp x o h hb hn
    exact b.kp x o h1 h2 hn, fun x h => a.al x (b.al x h)⟩
theorem Go.weak {O O' : Addr → Prop} {B H B1 H1 : Hp} (w : ∀ a, O a → O' a) (a : Go O B H B1 H1) : Go O' B H B1 H1 :=
  ⟨a.eb, fun x o h hb hn => a.kp x o h hb fun z => hn (w x z), a.al⟩
theorem Nw.refl {B H : Hp} (e : Ex B H) : Nw B H B H := ⟨.refl B, e, .refl H, fun _ _ h => h⟩
theorem Nw.trans {B H B1 H1 B2 H2 : Hp} (a : Nw B H B1 H1) (b : Nw B1 H1 B2 H2) : Nw B H B2 H2 :=
  ⟨a.eb.trans b.eb, b.ex, a.hh.trans b.hh, fun x h hb => b.fr x (by
    obtain ⟨o, e⟩ := some_of_ne h
    exact ne_none (a.hh x o e)) (a.fr x h hb)⟩
/-- a new object, taken in -/
theorem Nw.put {B H : Hp} {p : Addr} {o : HO} (e : Ex B H) (n : H p = none) : Nw B H (upd B p o) (upd H p o) :=
  ⟨.upd (e.none n), e.both, .upd n, fun a h hb => by
    have z : a ≠ p := fun z => h (by rw [z]; exact n)
    rw [upd_ne z]
    exact hb⟩
/-- a new object, not taken in -/
theorem Nw.side {B H : Hp} {p : Addr} {o : HO} (e : Ex B H) (n : H p = none) : Nw B H B (upd H p o) :=
  ⟨.refl B, e.trans (.upd n), .upd n, fun a h hb => hb⟩
theorem Nw.go {B H B1 H1 : Hp} {O : Addr → Prop} (a : Nw B H B1 H1) : Go O B H B1 H1 :=
  ⟨a.eb, fun x o h hb _ => ⟨a.hh x o h, a.fr x (ne_none h) hb⟩, fun x h => a.hh.none h⟩

section
variable {G : Gx} {F O : Addr → Prop} {δ : DS} {σ : L2.St} {B H B' H' : Hp}
theorem SlOk.own_at {s : Sl} {v : Option V} {a : Addr} (h : SlOk G F O B H s v) (o : s.isOwn = true) (e : v = some (.ref a)) : B a = none ∧ O a ∧ F a ∧ H a ≠ none := by
  cases s with
  | no => cases o
  | dat d => cases o
  | own ds =>
    obtain ⟨b, xs, h1, h2, h3, h4, h5, _⟩ := h
    rw [h1] at e
    injection e with e
    injection e with e
    subst e
    exact ⟨h2, h3, h4, ne_none h5⟩
  | pot b n =>
    obtain ⟨i, j, h1, h2, h3, h4, h5, _⟩ := h
    rw [h1] at e
    injection e with e
    injection e with e
    subst e
    exact ⟨h2, h3, h4, ne_none h5⟩
  | ins b k fs =>
    obtain ⟨dx, vs, h1, h2, h3, h4, h5, _⟩ := h
    rw [h1] at e
    injection e with e
    injection e with e
    subst e
    exact ⟨h2, h3, h4, ne_none h5⟩
/-- a slot's word behind changes that leave its own object -/
theorem SlOk.step {s : Sl} {v : Option V} (h : SlOk G F O B H s v) (e : Ex B B') (k : ∀ a o, s.isOwn = true → v = some (.ref a) → H a = some o → H' a = some o ∧ B' a = none) : SlOk G F O B' H' s v := by
  cases s with
  | no => trivial
  | dat d =>
    obtain ⟨x, h1, h2⟩ := h
    exact ⟨x, h1, Rep.mono e d x h2⟩
  | own ds =>
    obtain ⟨b, xs, h1, h2, h3, h4, h5, h6⟩ := h
    obtain ⟨k1, k2⟩ := k b _ rfl h1 h5
    exact ⟨b, xs, h1, k2, h3, h4, k1, Reps.mono e ds xs h6⟩
  | pot b n =>
    obtain ⟨i, j, h1, h2, h3, h4, h5, h6⟩ := h
    obtain ⟨k1, k2⟩ := k b _ rfl h1 h5
    exact ⟨i, j, h1, k2, h3, h4, k1, h6⟩
  | ins b c fs =>
    obtain ⟨dx, vs, h1, h2, h3, h4, h5, h6, h7⟩ := h
    obtain ⟨k1, k2⟩ := k b _ rfl h1 h5
    exact ⟨dx, vs, h1, k2, h3, h4, k1, h6, Reps.mono e _ _ h7⟩
theorem SlOk.setO {O' : Addr → Prop} {s : Sl} {v : Option V} (h : SlOk G F O B H s v) (k : ∀ a, s.isOwn = true → v = some (.ref a) → O' a) : SlOk G F O' B H s v := by
  cases s with
  | no => trivial
  | dat d => exact h
  | own ds =>
    obtain ⟨b, xs, h1, h2, h3, h4, h5, h6⟩ := h
    exact ⟨b, xs, h1, h2, k b rfl h1, h4, h5, h6⟩
  | pot b n =>
    obtain ⟨i, j, h1, h2, h3, h4, h5, h6⟩ := h
    exact ⟨i, j, h1, h2, k b rfl h1, h4, h5, h6⟩
  | ins b c fs =>
    obtain ⟨dx, vs, h1, h2, h3, h4, h5, h6, h7⟩ := h
    exact ⟨dx, vs, h1, h2, k b rfl h1, h4, h5, h6, h7⟩

theorem Mat.nw (m : Mat G F O δ σ B H) (n : Nw B H B' H') : Mat G F O δ σ B' H' := by
  refine ⟨n.ex, fun a h => m.fo a (n.hh.none h), fun a h => m.ff a (n.hh.none h), m.len, fun i s hs => ?_, m.dj⟩
  obtain ⟨v, hv, hk⟩ := m.ok i s hs
  exact ⟨v, hv, hk.step n.eb fun a o ho ev ha => ⟨n.hh a o ha, n.fr a (ne_none ha) (hk.own_at ho ev).1⟩⟩
/-- the object of the own slot i is changed, all else is as it was -/
theorem Mat.own_upd (m : Mat G F O δ σ B H) {i : Nat} {s t : Sl} {a : Addr} {o : HO} (hi : δ[i]? = some s) (hs : s.isOwn = true) (hv : σ[i]? = some (some (.ref a))) (ht : SlOk G F O B (upd H a o) t (some (.ref a))) (hd : t.isOwn = true) :
    Mat G F O (δ.set i t) σ B (upd H a o) ∧ Go O B H B (upd H a o) := by
  obtain ⟨v, hv', hk⟩ := m.ok i s hi
  rw [hv] at hv'
  cases hv'
  obtain ⟨hb, hO, hF, hn⟩ := hk.own_at hs rfl
  have hil : i < δ.length := (List.getElem?_eq_some_iff.mp hi).1
  have nn : ∀ b, (upd H a o) b = none → H b = none := fun b h => by
    by_cases z : b = a
    · subst z
      rw [upd_same] at h
      cases h
    · rw [upd_ne z] at h
      exact h
  refine ⟨⟨m.ex.upd2 hb, fun b h => m.fo b (nn b h), fun b h => m.ff b (nn b h), by rw [List.length_set]; exact m.len, fun j u hu => ?_, fun j k u w b hjk hu hw u1 w1 e1 e2 => ?_⟩, .refl B, fun b u h hbb hno => ⟨?_, hbb⟩, nn⟩
  · by_cases hij : i = j
    · subst hij
      rw [List.getElem?_set_self hil] at hu
      cases hu
      exact ⟨_, hv, ht⟩
    · rw [List.getElem?_set_ne hij] at hu
      obtain ⟨v, hv2, hk2⟩ := m.ok j u hu
      refine ⟨v, hv2, hk2.step (.refl B) fun b q ho ev hb2 => ⟨?_, (hk2.own_at ho ev).1⟩⟩
      have z : b ≠ a := fun z => by
        subst z
        exact m.dj i j s u b hij hi hu hs ho hv (ev ▸ hv2)
      rw [upd_ne z]
      exact hb2
  · have old : ∀ (j : Nat) (u : Sl), (δ.set i t)[j]? = some u → u.isOwn = true → ∃ u', δ[j]? = some u' ∧ u'.isOwn = true := fun j u hu u1 => by
      by_cases hij : i = j
      · subst hij
        exact ⟨s, hi, hs⟩
      · rw [List.getElem?_set_ne hij] at hu
        exact ⟨u, hu, u1⟩
    obtain ⟨u', hu', u1'⟩ := old j u hu u1
    obtain ⟨w', hw', w1'⟩ := old k w hw w1
    exact m.dj j k u' w' b hjk hu' hw' u1' w1' e1 e2
  · have z : b ≠ a := fun z => by
      subst z
      exact hno hO
    rw [upd_ne z]
    exact h
/-- an own list is given up: it may be shared from now on -/
theorem Mat.freeze (m : Mat G F O δ σ B H) {i : Nat} {ds : List D} (hi : δ[i]? = some (.own ds)) :
    ∃ a xs B', σ[i]? = some (some (.ref a)) ∧ F a ∧ B' a = some (.lst xs) ∧ Reps G F B' ds xs ∧ Go O B H B' H ∧ (∀ d, Rep G F B' d (.ref a) → Mat G F O (δ.set i (.dat d)) σ B' H) := by
  obtain ⟨v, hv, a, xs, e, hb, hO, hF, ha, hr⟩ := m.ok i _ hi
  subst e
  have eb : Ex B (upd B a (.lst xs)) := .upd hb
  have hil : i < δ.length := (List.getElem?_eq_some_iff.mp hi).1
  refine ⟨a, xs, upd B a (.lst xs), hv, hF, upd_same, Reps.mono eb ds xs hr, ⟨eb, fun b o h hbb hno => ⟨h, ?_⟩, fun _ h => h⟩, fun d hd => ?_⟩
  · have z : b ≠ a := fun z => by
      subst z
      exact hno hO
    rw [upd_ne z]
    exact hbb
  · refine ⟨m.ex.low ha, m.fo, m.ff, by rw [List.length_set]; exact m.len, fun j u hu => ?_, fun j k u w b hjk hu hw u1 w1 e1 e2 => ?_⟩
    · by_cases hij : i = j
      · subst hij
        rw [List.getElem?_set_self hil] at hu
        cases hu
        exact ⟨_, hv, _, rfl, hd⟩
      · rw [List.getElem?_set_ne hij] at hu
        obtain ⟨v, hv2, hk2⟩ := m.ok j u hu
        refine ⟨v, hv2, hk2.step eb fun b q ho ev hb2 => ⟨hb2, ?_⟩⟩
        have z : b ≠ a := fun z => by
          subst z
          exact m.dj i j _ u b hij hi hu rfl ho hv (ev ▸ hv2)
        rw [upd_ne z]
        exact (hk2.own_at ho ev).1
    · have old : ∀ (j : Nat) (u : Sl), (δ.set i (.dat d))[j]? = some u → u.isOwn = true → δ[j]? = some u := fun j u hu u1 => by
        by_cases hij : i = j
        · subst hij
          rw [List.getElem?_set_self hil] at hu
          cases hu
          cases u1
        · rw [List.getElem?_set_ne hij] at hu
          exact hu
      exact m.dj j k u w b hjk (old j u hu u1) (old k w hw w1) u1 w1 e1 e2
/-- a slot is stored anew -/
theorem Mat.store (m : Mat G F O δ σ B H) {i : Nat} {t : Sl} {x : V} (hi : i < δ.length) (ht : SlOk G F O B H t (some x)) (hd : t.isOwn = true → ∀ a, x = .ref a → ∀ (j : Nat) (u : Sl), j ≠ i → δ[j]? = some u → u.isOwn = true → σ[j]? ≠ some (some (.ref a))) :
    Mat G F O (δ.set i t) (σ.set i (some x)) B H := by
  have hl : i < σ.length := by rw [← m.len]; exact hi
  refine ⟨m.ex, m.fo, m.ff, by rw [List.length_set, List.length_set]; exact m.len, fun j u hu => ?_, fun j k u w b hjk hu hw u1 w1 e1 e2 => ?_⟩
  · by_cases hij : i = j
    · subst hij
      rw [List.getElem?_set_self hi] at hu
      cases hu
      exact ⟨_, List.getElem?_set_self hl, ht⟩
    · rw [List.getElem?_set_ne hij] at hu ⊢
      exact m.ok j u hu
  · by_cases hij : i = j
    · subst hij
      have hik : i ≠ k := hjk
      rw [List.getElem?_set_self hi] at hu
      cases hu
      rw [List.getElem?_set_self hl] at e1
      rw [List.getElem?_set_ne hik] at hw e2
      cases e1
      exact hd u1 b rfl k w (Ne.symm hik) hw w1 e2
    · rw [List.getElem?_set_ne hij] at hu e1
      by_cases hik : i = k
      · subst hik
        rw [List.getElem?_set_self hi] at hw
        cases hw
        rw [List.getElem?_set_self hl] at e2
        cases e2
        exact hd w1 b rfl j u hjk hu u1 e1
      · rw [List.getElem?_set_ne hik] at hw e2
        exact m.dj j k u w b hjk hu hw u1 w1 e1 e2
/-- the slots are known by name alone: another heap behind other O -/
theorem Mat.setO {O' : Addr → Prop} (m : Mat G F O δ σ B H) (h1 : ∀ a, H a = none → O' a) (h2 : ∀ (i : Nat) (s : Sl) a, δ[i]? = some s → s.isOwn = true → σ[i]? = some (some (.ref a)) → O' a) : Mat G F O' δ σ B H :=
  ⟨m.ex, h1, m.ff, m.len, fun i s hs => by
    obtain ⟨v, hv, hk⟩ := m.ok i s hs
    exact ⟨v, hv, hk.setO fun a ho ev => h2 i s a hs ho (ev ▸ hv)⟩, m.dj⟩
theorem Mat.own_ne (m : Mat G F O δ σ B H) {p : Addr} (n : H p = none) {j : Nat} {u : Sl} (hu : δ[j]? = some u) (u1 : u.isOwn = true) : σ[j]? ≠ some (some (.ref p)) := fun z => by
  obtain ⟨v, hv, hk⟩ := m.ok j u hu
  rw [z] at hv
  cases hv
  exact (hk.own_at u1 rfl).2.2.2 n
end
end K26
set_option Elab.async false
set_option linter.all false
set_option maxRecDepth 100000
set_option maxHeartbeats 1000000
namespace K26
open PySem PySem.Spec PyProof.Rows L2

/-! ## readings over data -/
abbrev DTE := DS → (D → DS → Prop) → Prop
abbrev DTT := DS → (Bool → DS → Prop) → Prop
abbrev DTA := DS → (List D → DS → Prop) → Prop
abbrev DTO := DS → (Option Int → DS → Prop) → Prop
abbrev DTV := DS → (Sl → DS → Prop) → Prop
abbrev DR1 := D → (D → Prop) → Prop
abbrev DR2 := D → D → (D → Prop) → Prop
abbrev DRC := List D → (D → Prop) → Prop

section
variable (G : Gx)
def RefE (te : TE) (de : DTE) : Prop := ∀ (F O : Addr → Prop) (δ : DS) (σ : L2.St) (B H : Hp), Mat G F O δ σ B H → ∀ DQ, de δ DQ → ∀ Q : VK,
  (∀ d v δ' B' H', Mat G F O δ' σ B' H' → Go O B H B' H' → Rep G F B' d v → DQ d δ' → Q v H') → te σ H Q
def RefT (tt : TT) (dt : DTT) : Prop := ∀ (F O : Addr → Prop) (δ : DS) (σ : L2.St) (B H : Hp), Mat G F O δ σ B H → ∀ DQ, dt δ DQ → ∀ Q : Bool → Hp → Prop,
  (∀ b δ' B' H', Mat G F O δ' σ B' H' → Go O B H B' H' → DQ b δ' → Q b H') → tt σ H Q
def RefA (n : Nat) (ta : TA) (da : DTA) : Prop := ∀ (F O : Addr → Prop) (δ : DS) (σ : L2.St) (B H : Hp), Mat G F O δ σ B H → ∀ DQ, da δ DQ → ∀ Q : List V → Hp → Prop,
  (∀ ds vs δ' B' H', Mat G F O δ' σ B' H' → Go O B H B' H' → Reps G F B' ds vs → vs.length = n → DQ ds δ' → Q vs H') → ta σ H Q
def RefO (to : TO) (dO : DTO) : Prop := ∀ (F O : Addr → Prop) (δ : DS) (σ : L2.St) (B H : Hp), Mat G F O δ σ B H → ∀ DQ, dO δ DQ → ∀ Q : Option Int → Hp → Prop,
  (∀ o δ' B' H', Mat G F O δ' σ B' H' → Go O B H B' H' → DQ o δ' → Q o H') → to σ H Q
/-- to a slot: a datum, or a list of its own that nothing else knows -/
def RefV (te : TE) (dv : DTV) : Prop := ∀ (F O : Addr → Prop) (δ : DS) (σ : L2.St) (B H : Hp), Mat G F O δ σ B H → ∀ DQ, dv δ DQ → ∀ Q : VK,
  (∀ s v δ' B' H', Mat G F O δ' σ B' H' → Go O B H B' H' → SlOk G F O B' H' s (some v) → (s.isOwn = true → ∃ p, v = .ref p ∧ H p = none ∧ ∀ (j : Nat) (u : Sl), δ'[j]? = some u → u.isOwn = true → σ[j]? ≠ some (some (.ref p))) → DQ s δ' → Q v H') → te σ H Q
def RefR1 (r : V → Hp → VK → Prop) (dr : DR1) : Prop := ∀ (F : Addr → Prop) (B H : Hp) x d, Ex B H → (∀ a, H a = none → F a) → Rep G F B d x → ∀ DQ, dr d DQ → ∀ Q : VK,
  (∀ z v B' H', Nw B H B' H' → Rep G F B' z v → DQ z → Q v H') → r x H Q
def RefR2 (r : R2) (dr : DR2) : Prop := ∀ (F : Addr → Prop) (B H : Hp) x y d e, Ex B H → (∀ a, H a = none → F a) → Rep G F B d x → Rep G F B e y → ∀ DQ, dr d e DQ → ∀ Q : VK,
  (∀ z v B' H', Nw B H B' H' → Rep G F B' z v → DQ z → Q v H') → r x y H Q
def RefC (r : List V → Hp → VK → Prop) (dr : DRC) : Prop := ∀ (F : Addr → Prop) (B H : Hp) xs ds, Ex B H → (∀ a, H a = none → F a) → Reps G F B ds xs → ∀ DQ, dr ds DQ → ∀ Q : VK,
  (∀ z v B' H', Nw B H B' H' → Rep G F B' z v → DQ z → Q v H') → r xs H Q
end

/-! ### the data's own words -/
def dC (d : D) : DTE := fun δ Q => Q d δ
def dVar (i : Nat) : DTE := fun δ Q => match δ[i]? with
  | some (.dat d) => Q d δ
  | some (.own ds) => Q (.lst ds) (δ.set i (.dat (.lst ds)))
  | _ => False
/-- the same, the list given up is told as new -/
def dVarN (i : Nat) : DTE := fun δ Q => match δ[i]? with
  | some (.dat d) => Q d δ
  | some (.own ds) => Q (.new ds) (δ.set i (.dat (.new ds)))
  | _ => False
/-- a tagged list read as a plain one -/
def dOld (a : DTE) : DTE := fun δ Q => a δ fun d δ1 => match d with
  | .new ds => Q (.lst ds) δ1
  | d => Q d δ1
def dOp (r : DR2) (a b : DTE) : DTE := fun δ Q => a δ fun x δ1 => b δ1 fun y δ2 => r x y fun z => Q z δ2
def dUn (r : DR1) (a : DTE) : DTE := fun δ Q => a δ fun x δ1 => r x fun z => Q z δ1
def dCB (r : DRC) (a : DTA) : DTE := fun δ Q => a δ fun xs δ1 => r xs fun z => Q z δ1
def dTst (a : DTE) : DTT := fun δ Q => a δ fun x δ1 => match x with
  | .bl c => Q c δ1
  | _ => False
def dAnd (t u : DTT) : DTT := fun δ Q => t δ fun c δ1 => match c with
  | true => u δ1 Q
  | false => Q false δ1
def dOr (t u : DTT) : DTT := fun δ Q => t δ fun c δ1 => match c with
  | true => Q true δ1
  | false => u δ1 Q
def dNot (t : DTT) : DTT := fun δ Q => t δ fun c δ1 => Q (!c) δ1
def dAndV (a b : DTE) : DTE := fun δ Q => a δ fun x δ1 => match x with
  | .bl true => b δ1 Q
  | .bl false => Q (.bl false) δ1
  | _ => False
def dOrV (a b : DTE) : DTE := fun δ Q => a δ fun x δ1 => match x with
  | .bl true => Q (.bl true) δ1
  | .bl false => b δ1 Q
  | _ => False
def dNotV (a : DTE) : DTE := fun δ Q => a δ fun x δ1 => match x with
  | .bl c => Q (.bl (!c)) δ1
  | _ => False
def dIfE (t : DTT) (a b : DTE) : DTE := fun δ Q => t δ fun c δ1 => match c with
  | true => a δ1 Q
  | false => b δ1 Q
def dNil : DTA := fun δ Q => Q [] δ
def dCons (a : DTE) (r : DTA) : DTA := fun δ Q => a δ fun x δ1 => r δ1 fun xs δ2 => Q (x :: xs) δ2
def dTup (a : DTA) : DTE := fun δ Q => a δ fun xs δ1 => Q (.tup xs) δ1
def dLst (a : DTA) : DTE := fun δ Q => a δ fun xs δ1 => Q (.lst xs) δ1
def isNon : D → Bool
  | .non => true
  | _ => false
def dIsN (a : DTE) : DTE := fun δ Q => a δ fun x δ1 => Q (.bl (isNon x)) δ1
def dNotN (a : DTE) : DTE := fun δ Q => a δ fun x δ1 => Q (.bl (!isNon x)) δ1
def dNoP : DTO := fun δ Q => Q none δ
def dPart (a : DTE) : DTO := fun δ Q => a δ fun x δ1 => match x with
  | .int i => Q (some i) δ1
  | _ => False
/-- a datum to a slot -/
def dDat (a : DTE) : DTV := fun δ Q => a δ fun x δ1 => Q (.dat x) δ1
/-- a list of its own -/
def dOwnL (a : DTA) : DTV := fun δ Q => a δ fun xs δ1 => Q (.own xs) δ1
/-- ds * k -/
def dOwnR (a : DTA) (b : DTE) : DTV := fun δ Q => a δ fun xs δ1 => b δ1 fun y δ2 => match y with
  | .int k => (0 ≤ k ∧ k < 1000 ∧ xs.length = 1) ∧ Q (.own (List.replicate k.toNat xs).flatten) δ2
  | _ => False

section
variable {G : Gx}
theorem ref_c {d : D} {v : V} (h : ∀ F B, Rep G F B d v) : RefE G (tC v) (dC d) := fun F O δ σ B H m DQ q Q k => k d v δ B H m (.refl O B H) (h F B) q
theorem ref_var (i : Nat) : RefE G (tVar i) (dVar i) := fun F O δ σ B H m DQ q Q k => by
  unfold dVar at q
  cases e : δ[i]? with
  | none =>
    rw [e] at q
    exact q.elim
  | some s =>
    rw [e] at q
    cases s with
    | dat d =>
      obtain ⟨v, hv, x, rfl, hr⟩ := m.ok i _ e
      exact ⟨x, hv, k d x δ B H m (.refl O B H) hr q⟩
    | own ds =>
      obtain ⟨a, xs, B', h1, h2, h3, h4, h5, h6⟩ := m.freeze e
      have r : Rep G F B' (.lst ds) (.ref a) := ⟨a, xs, rfl, h3, h4⟩
      exact ⟨.ref a, h1, k _ _ _ _ _ (h6 _ r) h5 r q⟩
    | no => exact q.elim
    | pot _ _ => exact q.elim
    | ins _ _ _ => exact q.elim
theorem ref_varN (i : Nat) : RefE G (tVar i) (dVarN i) := fun F O δ σ B H m DQ q Q k => by
  unfold dVarN at q
  cases e : δ[i]? with
  | none =>
    rw [e] at q
    exact q.elim
  | some s =>
    rw [e] at q
    cases s with
    | dat d =>
      obtain ⟨v, hv, x, rfl, hr⟩ := m.ok i _ e
      exact ⟨x, hv, k d x δ B H m (.refl O B H) hr q⟩
    | own ds =>
      obtain ⟨a, xs, B', h1, h2, h3, h4, h5, h6⟩ := m.freeze e
      have r : Rep G F B' (.new ds) (.ref a) := ⟨a, xs, rfl, h2, h3, h4⟩
      exact ⟨.ref a, h1, k _ _ _ _ _ (h6 _ r) h5 r q⟩
    | no => exact q.elim
    | pot _ _ => exact q.elim
    | ins _ _ _ => exact q.elim
theorem ref_old {te : TE} {a : DTE} (h : RefE G te a) : RefE G te (dOld a) := fun F O δ σ B H m DQ q Q k =>
  h F O δ σ B H m _ q Q fun d v δ' B' H' m' g r q' => by
    cases d with
    | new ds =>
      obtain ⟨a, xs, h1, _, h2, h3⟩ := r
      exact k (.lst ds) v δ' B' H' m' g ⟨a, xs, h1, h2, h3⟩ q'
    | non => exact k _ v δ' B' H' m' g r q'
    | bl b => exact k _ v δ' B' H' m' g r q'
    | int i => exact k _ v δ' B' H' m' g r q'
    | str x => exact k _ v δ' B' H' m' g r q'
    | lst ds => exact k _ v δ' B' H' m' g r q'
    | tup ds => exact k _ v δ' B' H' m' g r q'
    | obj c ds => exact k _ v δ' B' H' m' g r q'
variable {ta tb te : TE} {a b : DTE} {tt tu : TT} {t u : DTT}
theorem ref_op {r : R2} {dr : DR2} (ha : RefE G ta a) (hb : RefE G tb b) (hr : RefR2 G r dr) : RefE G (tOp r ta tb) (dOp dr a b) := fun F O δ σ B H m DQ q Q k =>
  ha F O δ σ B H m _ q _ fun d v δ1 B1 H1 m1 g1 r1 q1 => hb F O δ1 σ B1 H1 m1 _ q1 _ fun e w δ2 B2 H2 m2 g2 r2 q2 =>
    hr F B2 H2 v w d e m2.ex m2.ff (Rep.mono g2.eb d v r1) r2 _ q2 Q fun z x B3 H3 n r3 q3 => k z x δ2 B3 H3 (m2.nw n) ((g1.trans g2).trans n.go) r3 q3
theorem ref_un {r : V → Hp → VK → Prop} {dr : DR1} (ha : RefE G ta a) (hr : RefR1 G r dr) : RefE G (tUn r ta) (dUn dr a) := fun F O δ σ B H m DQ q Q k =>
  ha F O δ σ B H m _ q _ fun d v δ1 B1 H1 m1 g1 r1 q1 => hr F B1 H1 v d m1.ex m1.ff r1 _ q1 Q fun z x B3 H3 n r3 q3 => k z x δ1 B3 H3 (m1.nw n) (g1.trans n.go) r3 q3
theorem ref_cb {n : Nat} {r : List V → Hp → VK → Prop} {dr : DRC} {tl : TA} {l : DTA} (ha : RefA G n tl l) (hr : RefC G r dr) : RefE G (tCB r tl) (dCB dr l) := fun F O δ σ B H m DQ q Q k =>
  ha F O δ σ B H m _ q _ fun ds vs δ1 B1 H1 m1 g1 r1 _ q1 => hr F B1 H1 vs ds m1.ex m1.ff r1 _ q1 Q fun z x B3 H3 n r3 q3 => k z x δ1 B3 H3 (m1.nw n) (g1.trans n.go) r3 q3
theorem rep_bl {F B d c} (h : Rep G F B d (.bl c)) : d = .bl c := by
  cases d with
  | bl b =>
    have e : V.bl c = V.bl b := h
    cases e
    rfl
  | non => cases (show V.bl c = V.non from h)
  | int i => cases (show V.bl c = V.int i from h)
  | str x => cases (show V.bl c = V.str x from h)
  | lst ds => obtain ⟨_, _, e, _⟩ := h; cases e
  | new ds => obtain ⟨_, _, e, _⟩ := h; cases e
  | tup ds => obtain ⟨_, _, e, _⟩ := h; cases e
  | obj k ds => obtain ⟨_, _, _, e, _⟩ := h; cases e
/-- of a datum that must be a truth value -/
theorem dTst_inv {d : D} {P : Bool → Prop} (h : match d with | .bl c => P c | _ => False) : ∃ c, d = .bl c ∧ P c := by
  cases d with
  | bl c => exact ⟨c, rfl, h⟩
  | _ => exact h.elim
theorem ref_tst (ha : RefE G ta a) : RefT G (tTest ta) (dTst a) := fun F O δ σ B H m DQ q Q k =>
  ha F O δ σ B H m _ q _ fun d v δ1 B1 H1 m1 g1 r1 q1 => by
    obtain ⟨c, rfl, q2⟩ := dTst_inv q1
    exact ⟨c, r1, k c δ1 B1 H1 m1 g1 q2⟩
theorem ref_tB (ha : RefE G ta a) : RefT G (tB ta) (dTst a) := fun F O δ σ B H m DQ q Q k =>
  ha F O δ σ B H m _ q _ fun d v δ1 B1 H1 m1 g1 r1 q1 => by
    obtain ⟨c, rfl, q2⟩ := dTst_inv q1
    exact ⟨c, r1, k c δ1 B1 H1 m1 g1 q2⟩
theorem ref_and (ht : RefT G tt t) (hu : RefT G tu u) : RefT G (tAnd tt tu) (dAnd t u) := fun F O δ σ B H m DQ q Q k =>
  ht F O δ σ B H m _ q _ fun c δ1 B1 H1 m1 g1 q1 => by
    cases c with
    | true => exact iteT (hu F O δ1 σ B1 H1 m1 _ q1 _ fun b δ2 B2 H2 m2 g2 q2 => k b δ2 B2 H2 m2 (g1.trans g2) q2)
    | false => exact iteF (k false δ1 B1 H1 m1 g1 q1)
theorem ref_or (ht : RefT G tt t) (hu : RefT G tu u) : RefT G (tOr tt tu) (dOr t u) := fun F O δ σ B H m DQ q Q k =>
  ht F O δ σ B H m _ q _ fun c δ1 B1 H1 m1 g1 q1 => by
    cases c with
    | true => exact iteT (k true δ1 B1 H1 m1 g1 q1)
    | false => exact iteF (hu F O δ1 σ B1 H1 m1 _ q1 _ fun b δ2 B2 H2 m2 g2 q2 => k b δ2 B2 H2 m2 (g1.trans g2) q2)
theorem ref_not (ht : RefT G tt t) : RefT G (tNot tt) (dNot t) := fun F O δ σ B H m DQ q Q k =>
  ht F O δ σ B H m _ q _ fun c δ1 B1 H1 m1 g1 q1 => k (!c) δ1 B1 H1 m1 g1 q1
theorem ref_andV (ha : RefE G ta a) (hb : RefE G tb b) : RefE G (tAndV ta tb) (dAndV a b) := fun F O δ σ B H m DQ q Q k =>
  ha F O δ σ B H m _ q _ fun d v δ1 B1 H1 m1 g1 r1 q1 => by
    cases d with
    | bl c =>
      cases c with
      | true => exact ⟨true, r1, iteT (hb F O δ1 σ B1 H1 m1 _ q1 _ fun e w δ2 B2 H2 m2 g2 r2 q2 => k e w δ2 B2 H2 m2 (g1.trans g2) r2 q2)⟩
      | false => exact ⟨false, r1, iteF (k (.bl false) _ δ1 B1 H1 m1 g1 rfl q1)⟩
    | _ => exact q1.elim
theorem ref_orV (ha : RefE G ta a) (hb : RefE G tb b) : RefE G (tOrV ta tb) (dOrV a b) := fun F O δ σ B H m DQ q Q k =>
  ha F O δ σ B H m _ q _ fun d v δ1 B1 H1 m1 g1 r1 q1 => by
    cases d with
    | bl c =>
      cases c with
      | false => exact ⟨false, r1, iteF (hb F O δ1 σ B1 H1 m1 _ q1 _ fun e w δ2 B2 H2 m2 g2 r2 q2 => k e w δ2 B2 H2 m2 (g1.trans g2) r2 q2)⟩
      | true => exact ⟨true, r1, iteT (k (.bl true) _ δ1 B1 H1 m1 g1 rfl q1)⟩
    | _ => exact q1.elim
theorem ref_notV (ha : RefE G ta a) : RefE G (tNotV ta) (dNotV a) := fun F O δ σ B H m DQ q Q k =>
  ha F O δ σ B H m _ q _ fun d v δ1 B1 H1 m1 g1 r1 q1 => by
    cases d with
    | bl c => exact ⟨c, r1, k (.bl (!c)) _ δ1 B1 H1 m1 g1 rfl q1⟩
    | _ => exact q1.elim
theorem ref_ifE (ht : RefT G tt t) (ha : RefE G ta a) (hb : RefE G tb b) : RefE G (tIf tt ta tb) (dIfE t a b) := fun F O δ σ B H m DQ q Q k =>
  ht F O δ σ B H m _ q _ fun c δ1 B1 H1 m1 g1 q1 => by
    cases c with
    | true => exact iteT (ha F O δ1 σ B1 H1 m1 _ q1 _ fun e w δ2 B2 H2 m2 g2 r2 q2 => k e w δ2 B2 H2 m2 (g1.trans g2) r2 q2)
    | false => exact iteF (hb F O δ1 σ B1 H1 m1 _ q1 _ fun e w δ2 B2 H2 m2 g2 r2 q2 => k e w δ2 B2 H2 m2 (g1.trans g2) r2 q2)
theorem ref_nil : RefA G 0 tNil dNil := fun F O δ σ B H m DQ q Q k => k [] [] δ B H m (.refl O B H) rfl rfl q
theorem ref_cons {n : Nat} {tr : TA} {r : DTA} (ha : RefE G ta a) (hr : RefA G n tr r) : RefA G (n + 1) (tCons ta tr) (dCons a r) := fun F O δ σ B H m DQ q Q k =>
  ha F O δ σ B H m _ q _ fun d v δ1 B1 H1 m1 g1 r1 q1 => hr F O δ1 σ B1 H1 m1 _ q1 _ fun ds vs δ2 B2 H2 m2 g2 r2 hn q2 =>
    k (d :: ds) (v :: vs) δ2 B2 H2 m2 (g1.trans g2) ⟨v, vs, rfl, Rep.mono g2.eb d v r1, r2⟩ (by rw [List.length_cons, hn]) q2
theorem ref_tup {n : Nat} {tl : TA} {l : DTA} (ha : RefA G n tl l) (hn : n ≤ 100 := by decide) : RefE G (tTup tl) (dTup l) := fun F O δ σ B H m DQ q Q k =>
  ha F O δ σ B H m _ q _ fun ds vs δ1 B1 H1 m1 g1 r1 h1 q1 => ⟨by rw [h1, sizeLine_eq]; omega, fun p hp => by
    have n := Nw.put (o := .tup vs) m1.ex hp
    exact k (.tup ds) _ δ1 _ _ (m1.nw n) (g1.trans n.go) ⟨p, vs, rfl, upd_same, Reps.mono n.eb ds vs r1⟩ q1⟩
theorem ref_lst {n : Nat} {tl : TA} {l : DTA} (ha : RefA G n tl l) (hn : n ≤ 100 := by decide) : RefE G (tLst tl) (dLst l) := fun F O δ σ B H m DQ q Q k =>
  ha F O δ σ B H m _ q _ fun ds vs δ1 B1 H1 m1 g1 r1 h1 q1 => ⟨by rw [h1, sizeLine_eq]; omega, fun p hp => by
    have n := Nw.put (o := .lst vs) m1.ex hp
    exact k (.lst ds) _ δ1 _ _ (m1.nw n) (g1.trans n.go) ⟨p, vs, rfl, upd_same, Reps.mono n.eb ds vs r1⟩ q1⟩
theorem rep_non {F B d} (h : Rep G F B d .non) : d = .non := by
  cases d with
  | non => rfl
  | bl b => cases (show V.non = V.bl b from h)
  | int i => cases (show V.non = V.int i from h)
  | str x => cases (show V.non = V.str x from h)
  | lst ds => obtain ⟨_, _, e, _⟩ := h; cases e
  | new ds => obtain ⟨_, _, e, _⟩ := h; cases e
  | tup ds => obtain ⟨_, _, e, _⟩ := h; cases e
  | obj k ds => obtain ⟨_, _, _, e, _⟩ := h; cases e
theorem isNon_v {F B d v} (h : Rep G F B d v) : decide (v = .non) = isNon d := by
  by_cases e : v = .non
  · subst e
    rw [rep_non h]
    rfl
  · rw [decide_eq_false e]
    cases d with
    | non => exact absurd h e
    | _ => rfl
theorem ref_isN (ha : RefE G ta a) : RefE G (tIsN ta) (dIsN a) := fun F O δ σ B H m DQ q Q k =>
  ha F O δ σ B H m _ q _ fun d v δ1 B1 H1 m1 g1 r1 q1 => k (.bl (isNon d)) _ δ1 B1 H1 m1 g1 (congrArg V.bl (isNon_v r1)) q1
theorem ref_notN (ha : RefE G ta a) : RefE G (tNotN ta) (dNotN a) := fun F O δ σ B H m DQ q Q k =>
  ha F O δ σ B H m _ q _ fun d v δ1 B1 H1 m1 g1 r1 q1 => k (.bl (!isNon d)) _ δ1 B1 H1 m1 g1 (congrArg (fun z => V.bl (!z)) (isNon_v r1)) q1
theorem ref_noP : RefO G tNoPart dNoP := fun F O δ σ B H m DQ q Q k => k none δ B H m (.refl O B H) q
theorem ref_part (ha : RefE G ta a) : RefO G (tPart ta) (dPart a) := fun F O δ σ B H m DQ q Q k =>
  ha F O δ σ B H m _ q _ fun d v δ1 B1 H1 m1 g1 r1 q1 => by
    cases d with
    | int i => exact ⟨i, r1, k _ δ1 B1 H1 m1 g1 q1⟩
    | _ => exact q1.elim
theorem ref_dat (ha : RefE G ta a) : RefV G ta (dDat a) := fun F O δ σ B H m DQ q Q k =>
  ha F O δ σ B H m _ q _ fun d v δ1 B1 H1 m1 g1 r1 q1 => k (.dat d) v δ1 B1 H1 m1 g1 ⟨v, rfl, r1⟩ (fun z => nomatch z) q1
theorem ref_ownL {n : Nat} {tl : TA} {l : DTA} (ha : RefA G n tl l) (hn : n ≤ 100 := by decide) : RefV G (tLst tl) (dOwnL l) := fun F O δ σ B H m DQ q Q k =>
  ha F O δ σ B H m _ q _ fun ds vs δ1 B1 H1 m1 g1 r1 h1 q1 => ⟨by rw [h1, sizeLine_eq]; omega, fun p hp => by
    have n := Nw.side (o := .lst vs) m1.ex hp
    exact k (.own ds) (.ref p) δ1 _ _ (m1.nw n) (g1.trans n.go) ⟨p, vs, rfl, m1.ex.none hp, m1.fo p hp, m1.ff p hp, upd_same, r1⟩ (fun _ => ⟨p, rfl, g1.al p hp, fun j u hu u1 => m1.own_ne hp hu u1⟩) q1⟩
theorem ref_ownR {n : Nat} {tl : TA} {l : DTA} (ha : RefA G n tl l) (hb : RefE G tb b) (hn : n ≤ 100 := by decide) : RefV G (tOp rRep (tLst tl) tb) (dOwnR l b) := fun F O δ σ B H m DQ q Q k =>
  ha F O δ σ B H m _ q _ fun ds vs δ1 B1 H1 m1 g1 r1 h1 q1 => ⟨by rw [h1, sizeLine_eq]; omega, fun p hp => by
    have n := Nw.put (o := .lst vs) m1.ex hp
    refine hb F O δ1 σ _ _ (m1.nw n) _ q1 _ fun e w δ2 B2 H2 m2 g2 r2 q2 => ?_
    cases e with
    | int j =>
      obtain ⟨⟨j0, j1, j2⟩, q3⟩ := q2
      have hl : vs.length = 1 := by rw [r1.length, j2]
      refine ⟨p, j, vs, rfl, r2, m2.ex _ _ (g2.eb _ _ upd_same), by omega, by omega, by rw [hl, sizeLine_eq]; omega, fun p2 hp2 => ?_⟩
      have n2 := Nw.side (o := .lst (List.replicate j.toNat vs).flatten) m2.ex hp2
      exact k (.own _) (.ref p2) δ2 _ _ (m2.nw n2) (((g1.trans n.go).trans g2).trans n2.go) ⟨p2, _, rfl, m2.ex.none hp2, m2.fo p2 hp2, m2.ff p2 hp2, upd_same, Reps.rep _ (Reps.mono (n.eb.trans g2.eb) ds vs r1)⟩
        (fun _ => ⟨p2, rfl, ((g1.trans n.go).trans g2).al p2 hp2, fun j u hu u1 => m2.own_ne hp2 hu u1⟩) q3
    | _ => exact q2.elim⟩
end
end K26
set_option Elab.async false
set_option linter.all false
set_option maxRecDepth 100000
set_option maxHeartbeats 1000000
namespace K26
open PySem PySem.Spec PyProof.Rows L2

/-! ## statements over data -/
structure DEnds where
  nx : DS → Prop
  rt : D → DS → Prop
  bk : DS → Prop := fun _ => False
  ct : DS → Prop := fun _ => False
abbrev DTS := DEnds → DS → Prop
abbrev DTG := D → DS → (DS → Prop) → Prop
abbrev DTGs := List D → DS → (DS → Prop) → Prop
abbrev DTI := DS → (List D → DS → Prop) → Prop
structure EOk (G : Gx) (F O : Addr → Prop) (B H : Hp) (E : DEnds) (N : Ends) : Prop where
  nx : ∀ δ σ B' H', Mat G F O δ σ B' H' → Go O B H B' H' → E.nx δ → N.nx σ H'
  rt : ∀ d v δ σ B' H', Mat G F O δ σ B' H' → Go O B H B' H' → Rep G F B' d v → E.rt d δ → N.rt v H'
  bk : ∀ δ σ B' H', Mat G F O δ σ B' H' → Go O B H B' H' → E.bk δ → N.bk σ H'
  ct : ∀ δ σ B' H', Mat G F O δ σ B' H' → Go O B H B' H' → E.ct δ → N.ct σ H'
theorem EOk.go {G : Gx} {F O : Addr → Prop} {B H B1 H1 : Hp} {E : DEnds} {N : Ends} (e : EOk G F O B H E N) (g : Go O B H B1 H1) : EOk G F O B1 H1 E N :=
  ⟨fun δ σ B' H' m g' q => e.nx δ σ B' H' m (g.trans g') q, fun d v δ σ B' H' m g' r q => e.rt d v δ σ B' H' m (g.trans g') r q,
    fun δ σ B' H' m g' q => e.bk δ σ B' H' m (g.trans g') q, fun δ σ B' H' m g' q => e.ct δ σ B' H' m (g.trans g') q⟩
section
variable (G : Gx)
def RefS (ts : TS) (ds : DTS) : Prop := ∀ (F O : Addr → Prop) (δ : DS) (σ : L2.St) (B H : Hp), Mat G F O δ σ B H → ∀ E, ds E δ → ∀ N, EOk G F O B H E N → ts N σ H
def RefG (g : TG) (dg : DTG) : Prop := ∀ (F O : Addr → Prop) (δ : DS) (σ : L2.St) (B H : Hp), Mat G F O δ σ B H → ∀ d v, Rep G F B d v → ∀ DQ, dg d δ DQ → ∀ Q : L2.St → Hp → Prop,
  (∀ δ' σ' B' H', Mat G F O δ' σ' B' H' → Go O B H B' H' → DQ δ' → Q σ' H') → g v σ H Q
def RefGs (n : Nat) (g : TGs) (dg : DTGs) : Prop := (∀ ds δ DQ, dg ds δ DQ → ds.length = n) ∧ ∀ (F O : Addr → Prop) (δ : DS) (σ : L2.St) (B H : Hp), Mat G F O δ σ B H → ∀ ds vs, Reps G F B ds vs → ∀ DQ, dg ds δ DQ → ∀ Q : L2.St → Hp → Prop,
  (∀ δ' σ' B' H', Mat G F O δ' σ' B' H' → Go O B H B' H' → DQ δ' → Q σ' H') → g vs σ H Q
/-- targets that are names alone, among the slots vs -/
def RefN (vs : List Nat) (g : TG) (dg : DTG) : Prop := ∀ (F O : Addr → Prop) (δ : DS) (σ : L2.St) (B H : Hp), Mat G F O δ σ B H → ∀ d v, Rep G F B d v → ∀ DQ, dg d δ DQ → ∀ Q : L2.St → Hp → Prop,
  (∀ δ' σ', Mat G F O δ' σ' B H → wipe σ' vs = wipe σ vs → DQ δ' → Q σ' H) → g v σ H Q
def RefNs (vs : List Nat) (n : Nat) (g : TGs) (dg : DTGs) : Prop := (∀ ds δ DQ, dg ds δ DQ → ds.length = n) ∧ ∀ (F O : Addr → Prop) (δ : DS) (σ : L2.St) (B H : Hp), Mat G F O δ σ B H → ∀ ds us, Reps G F B ds us → ∀ DQ, dg ds δ DQ → ∀ Q : L2.St → Hp → Prop,
  (∀ δ' σ', Mat G F O δ' σ' B H → wipe σ' vs = wipe σ vs → DQ δ' → Q σ' H) → g us σ H Q
def RefI (wi : TI) (dw : DTI) : Prop := ∀ (F O : Addr → Prop) (δ : DS) (σ : L2.St) (B H : Hp), Mat G F O δ σ B H → ∀ DQ, dw δ DQ → ∀ R : It → Hp → Prop,
  (∀ J n W Y ds δ' B' H', Walk J n W Y → ds.length = n → Mat G F O δ' σ B' H' → Go O B H B' H' → (∀ B2 H2, Ex B' B2 → Ex B2 H2 → W H2) →
    (∀ i x B2 H2 H3, i < n → Ex B' B2 → Ex B2 H2 → (∀ a, H2 a = none → F a) → Y i H2 x H3 → ∃ B3 d, ds[i]? = some d ∧ Nw B2 H2 B3 H3 ∧ Rep G F B3 d x) → DQ ds δ' → R J H') → wi σ H R
end

def dNext : DTS := fun E δ => E.nx δ
def dSeq (t u : DTS) : DTS := fun E δ => t { E with nx := u E } δ
def dIf (c : DTT) (t u : DTS) : DTS := fun E δ => c δ fun b δ1 => match b with
  | true => t E δ1
  | false => u E δ1
def dRet (a : DTE) : DTS := fun E δ => a δ fun d δ1 => E.rt d δ1
def dDrop (a : DTE) : DTS := fun E δ => a δ fun _ δ1 => E.nx δ1
def dNever : DTS := fun _ _ => False
/-- slot i gets the word s -/
def putS (i : Nat) (s : Sl) (δ : DS) (Q : DS → Prop) : Prop := match δ[i]? with
  | some _ => Q (δ.set i s)
  | none => False
def dSet (i : Nat) (a : DTV) : DTS := fun E δ => a δ fun s δ1 => putS i s δ1 E.nx
def dAsg (a : DTE) (g : DTG) : DTS := fun E δ => a δ fun d δ1 => g d δ1 E.nx
def gNm (i : Nat) : DTG := fun d δ Q => putS i (.dat d) δ Q
def gNl : DTGs := fun ds δ Q => match ds with
  | [] => Q δ
  | _ :: _ => False
def gCn (g : DTG) (r : DTGs) : DTGs := fun ds δ Q => match ds with
  | [] => False
  | d :: ds => g d δ fun δ1 => r ds δ1 Q
def gTp (g : DTGs) : DTG := fun d δ Q => match d with
  | .tup ds => g ds δ Q
  | _ => False
/-- x[e] = .., x an own list -/
def gSb (i : Nat) (a : DTE) : DTG := fun d δ Q => match δ[i]? with
  | some (.own _) => a δ fun x δ1 => match x, δ1[i]? with
    | .int j, some (.own ds) => (0 ≤ j ∧ j < ds.length) ∧ Q (δ1.set i (.own (ds.set j.toNat d)))
    | _, _ => False
  | _ => False
/-- x, y = .., .. -/
def dPar (i j : Nat) (a b : DTV) : DTS := fun E δ => a δ fun s δ1 => b δ1 fun t δ2 => putS i s δ2 fun δ3 => putS j t δ3 E.nx
def dWhile (c : DTT) (b : DTS) : DTS := fun E δ => ∃ W : Nat → DS → Prop, (∃ m, W m δ) ∧ ∀ m δ, W m δ → c δ fun k δ1 => match k with
  | true => b { nx := fun δ' => ∃ m', m' < m ∧ W m' δ', rt := E.rt, ct := fun δ' => ∃ m', m' < m ∧ W m' δ', bk := E.nx } δ1
  | false => E.nx δ1
def dFor (w : DTI) (g : DTG) (b : DTS) : DTS := fun E δ => w δ fun ds δ1 => ∃ W : List D → DS → Prop, W ds δ1 ∧
  (∀ d ds δ, W (d :: ds) δ → g d δ fun δ2 => b { nx := W ds, rt := E.rt, ct := W ds, bk := E.nx } δ2) ∧ ∀ δ, W [] δ → E.nx δ

theorem putS_inv {i : Nat} {s : Sl} {δ : DS} {Q : DS → Prop} (h : putS i s δ Q) : i < δ.length ∧ Q (δ.set i s) := by
  unfold putS at h
  cases e : δ[i]? with
  | none =>
    rw [e] at h
    exact h.elim
  | some t =>
    rw [e] at h
    exact ⟨(List.getElem?_eq_some_iff.mp e).1, h⟩
theorem wipe_len (σ : L2.St) (vs : List Nat) : (wipe σ vs).length = σ.length := wipe_length σ vs
theorem wipe_set {σ : L2.St} {i : Nat} {x : Option V} : ∀ {vs : List Nat}, i ∈ vs → wipe (σ.set i x) vs = wipe σ vs
  | [], h => nomatch h
  | v :: vs, h => by
    by_cases e : i ∈ vs
    · show (wipe (σ.set i x) vs).set v none = (wipe σ vs).set v none
      rw [wipe_set e]
    · have z : i = v := by
        rcases List.mem_cons.mp h with z | z
        · exact z
        · exact absurd z e
      subst z
      show (wipe (σ.set i x) vs).set i none = (wipe σ vs).set i none
      have key : ∀ us : List Nat, i ∉ us → wipe (σ.set i x) us = (wipe σ us).set i x := fun us => by
        induction us with
        | nil => intro _; rfl
        | cons u us ih =>
          intro hu
          have h1 : i ≠ u := fun z => hu (z ▸ List.mem_cons_self)
          have h2 : i ∉ us := fun z => hu (List.mem_cons_of_mem _ z)
          show (wipe (σ.set i x) us).set u none = ((wipe σ us).set u none).set i x
          rw [ih h2, List.set_comm _ _ h1]
      rw [key vs e, List.set_set]

section
variable {G : Gx} {tt tu : TS} {t u : DTS} {ta tb te : TE} {a b : DTE} {tc : TT} {c : DTT}
theorem rs_next : RefS G tNext dNext := fun F O δ σ B H m E q N e => e.nx δ σ B H m (.refl O B H) q
theorem rs_seq (ht : RefS G tt t) (hu : RefS G tu u) : RefS G (tSeq tt tu) (dSeq t u) := fun F O δ σ B H m E q N e =>
  ht F O δ σ B H m _ q _ ⟨fun δ1 σ1 B1 H1 m1 g1 q1 => hu F O δ1 σ1 B1 H1 m1 E q1 N (e.go g1), e.rt, e.bk, e.ct⟩
theorem rs_if (hc : RefT G tc c) (ht : RefS G tt t) (hu : RefS G tu u) : RefS G (tIfS tc tt tu) (dIf c t u) := fun F O δ σ B H m E q N e =>
  hc F O δ σ B H m _ q _ fun k δ1 B1 H1 m1 g1 q1 => by
    cases k with
    | true => exact iteT (ht F O δ1 σ B1 H1 m1 E q1 N (e.go g1))
    | false => exact iteF (hu F O δ1 σ B1 H1 m1 E q1 N (e.go g1))
theorem rs_ret (ha : RefE G ta a) : RefS G (tRet ta) (dRet a) := fun F O δ σ B H m E q N e =>
  ha F O δ σ B H m _ q _ fun d v δ1 B1 H1 m1 g1 r1 q1 => e.rt d v δ1 σ B1 H1 m1 g1 r1 q1
theorem rs_drop (ha : RefE G ta a) : RefS G (tDrop ta) (dDrop a) := fun F O δ σ B H m E q N e =>
  ha F O δ σ B H m _ q _ fun d v δ1 B1 H1 m1 g1 r1 q1 => e.nx δ1 σ B1 H1 m1 g1 q1
theorem rs_never : RefS G tNever dNever := fun F O δ σ B H m E q N e => q
/-- a word to its slot -/
theorem Mat.put {F O : Addr → Prop} {δ : DS} {σ : L2.St} {B H : Hp} (m : Mat G F O δ σ B H) {i : Nat} {s : Sl} {v : V} (hi : i < δ.length) (hs : SlOk G F O B H s (some v))
    (hf : s.isOwn = true → ∃ p, v = .ref p ∧ ∀ (j : Nat) (u : Sl), δ[j]? = some u → u.isOwn = true → σ[j]? ≠ some (some (.ref p))) : Mat G F O (δ.set i s) (σ.set i (some v)) B H :=
  m.store hi hs fun o a ea j w hj hw w1 => by
    obtain ⟨p, e, k⟩ := hf o
    rw [e] at ea
    cases ea
    exact k j w hw w1
theorem rs_set {i : Nat} {v : DTV} (ha : RefV G ta v) : RefS G (tAsg ta (gName i)) (dSet i v) := fun F O δ σ B H m E q N e =>
  ha F O δ σ B H m _ q _ fun s x δ1 B1 H1 m1 g1 k1 f1 q1 => by
    obtain ⟨h1, h2⟩ := putS_inv q1
    exact e.nx _ _ _ _ (m1.put h1 k1 fun o => by
      obtain ⟨p, e1, _, e3⟩ := f1 o
      exact ⟨p, e1, e3⟩) g1 h2
theorem rn_name {i : Nat} {vs : List Nat} (h : i ∈ vs) : RefN G vs (gName i) (gNm i) := fun F O δ σ B H m d v r DQ q Q k => by
  obtain ⟨h1, h2⟩ := putS_inv q
  exact k _ _ (m.put h1 (s := .dat d) ⟨v, rfl, r⟩ fun o => nomatch o) (wipe_set h) h2
theorem rn_nil {vs : List Nat} : RefNs G vs 0 gNil gNl := ⟨fun ds δ DQ q => by
  cases ds with
  | nil => rfl
  | cons d ds => exact q.elim, fun F O δ σ B H m ds us r DQ q Q k => by
  cases ds with
  | nil => exact ⟨r, k δ σ m rfl q⟩
  | cons d ds => exact q.elim⟩
theorem rn_cons {vs : List Nat} {n : Nat} {g : TG} {gs : TGs} {dg : DTG} {dgs : DTGs} (h1 : RefN G vs g dg) (h2 : RefNs G vs n gs dgs) (hm : ∀ d δ P Q, (∀ δ, P δ → Q δ) → dg d δ P → dg d δ Q) (hx : ∀ d δ Q, dg d δ Q → ∃ δ', Q δ') : RefNs G vs (n + 1) (gCons g gs) (gCn dg dgs) :=
  ⟨fun ds δ DQ q => by
    cases ds with
    | nil => exact q.elim
    | cons d ds =>
      obtain ⟨δ', q'⟩ := hx _ _ _ q
      rw [List.length_cons, h2.1 _ _ _ q'], fun F O δ σ B H m ds us r DQ q Q k => by
    cases ds with
    | nil => exact q.elim
    | cons d ds =>
      obtain ⟨v, rr, e1, e2, e3⟩ := r
      exact ⟨v, rr, e1, h1 F O δ σ B H m d v e2 _ q _ fun δ1 σ1 m1 w1 q1 => h2.2 F O δ1 σ1 B H m1 ds rr e3 _ q1 _ fun δ2 σ2 m2 w2 q2 => k δ2 σ2 m2 (w2.trans w1) q2⟩⟩
theorem gNm_mono {i : Nat} : ∀ d δ P Q, (∀ δ, P δ → Q δ) → gNm i d δ P → gNm i d δ Q := fun d δ P Q h q => by
  unfold gNm putS at q ⊢
  cases e : δ[i]? with
  | none =>
    rw [e] at q
    exact q.elim
  | some t =>
    rw [e] at q
    exact h _ q
theorem gNm_ex {i : Nat} : ∀ d δ Q, gNm i d δ Q → ∃ δ', Q δ' := fun d δ Q q => ⟨_, (putS_inv q).2⟩
theorem rn_cons1 {vs : List Nat} {n i : Nat} {gs : TGs} {dgs : DTGs} (h : i ∈ vs) (h2 : RefNs G vs n gs dgs) : RefNs G vs (n + 1) (gCons (gName i) gs) (gCn (gNm i) dgs) :=
  rn_cons (rn_name h) h2 gNm_mono gNm_ex
theorem rn_tup {vs : List Nat} {n : Nat} {gs : TGs} {dgs : DTGs} (h : RefNs G vs n gs dgs) : RefN G vs (gTup G.K n gs) (gTp dgs) := fun F O δ σ B H m d v r DQ q Q k => by
  cases d with
  | tup ds =>
    obtain ⟨p, xs, e1, e2, e3⟩ := r
    exact ⟨p, xs, e1, .inl (.inl (m.ex _ _ e2)), by rw [e3.length]; exact h.1 _ _ _ q, h.2 F O δ σ B H m ds xs e3 DQ q Q k⟩
  | _ => exact q.elim
theorem rg_n {vs : List Nat} {g : TG} {dg : DTG} (h : RefN G vs g dg) : RefG G g dg := fun F O δ σ B H m d v r DQ q Q k =>
  h F O δ σ B H m d v r DQ q Q fun δ' σ' m' _ q' => k δ' σ' B H m' (.refl O B H) q'
theorem rg_nil : RefGs G 0 gNil gNl := ⟨fun ds δ DQ q => by
  cases ds with
  | nil => rfl
  | cons d ds => exact q.elim, fun F O δ σ B H m ds us r DQ q Q k => by
  cases ds with
  | nil => exact ⟨r, k δ σ B H m (.refl O B H) q⟩
  | cons d ds => exact q.elim⟩
theorem rg_cons {n : Nat} {g : TG} {gs : TGs} {dg : DTG} {dgs : DTGs} (h1 : RefG G g dg) (h2 : RefGs G n gs dgs) (hx : ∀ d δ Q, dg d δ Q → ∃ δ', Q δ') : RefGs G (n + 1) (gCons g gs) (gCn dg dgs) :=
  ⟨fun ds δ DQ q => by
    cases ds with
    | nil => exact q.elim
    | cons d ds =>
      obtain ⟨δ', q'⟩ := hx _ _ _ q
      rw [List.length_cons, h2.1 _ _ _ q'], fun F O δ σ B H m ds us r DQ q Q k => by
    cases ds with
    | nil => exact q.elim
    | cons d ds =>
      obtain ⟨v, rr, e1, e2, e3⟩ := r
      exact ⟨v, rr, e1, h1 F O δ σ B H m d v e2 _ q _ fun δ1 σ1 B1 H1 m1 g1 q1 => h2.2 F O δ1 σ1 B1 H1 m1 ds rr (Reps.mono g1.eb ds rr e3) _ q1 _ fun δ2 σ2 B2 H2 m2 g2 q2 => k δ2 σ2 B2 H2 m2 (g1.trans g2) q2⟩⟩
theorem rg_tup {n : Nat} {gs : TGs} {dgs : DTGs} (h : RefGs G n gs dgs) : RefG G (gTup G.K n gs) (gTp dgs) := fun F O δ σ B H m d v r DQ q Q k => by
  cases d with
  | tup ds =>
    obtain ⟨p, xs, e1, e2, e3⟩ := r
    exact ⟨p, xs, e1, .inl (.inl (m.ex _ _ e2)), by rw [e3.length]; exact h.1 _ _ _ q, h.2 F O δ σ B H m ds xs e3 DQ q Q k⟩
  | _ => exact q.elim
theorem rs_asg {g : TG} {dg : DTG} (ha : RefE G ta a) (hg : RefG G g dg) : RefS G (tAsg ta g) (dAsg a dg) := fun F O δ σ B H m E q N e =>
  ha F O δ σ B H m _ q _ fun d v δ1 B1 H1 m1 g1 r1 q1 => hg F O δ1 σ B1 H1 m1 d v r1 _ q1 _ fun δ2 σ2 B2 H2 m2 g2 q2 => e.nx δ2 σ2 B2 H2 m2 (g1.trans g2) q2
theorem rg_sub {i : Nat} (ha : RefE G ta a) : RefG G (gSub (tVar i) ta rSetL) (gSb i a) := fun F O δ σ B H m d v r DQ q Q k => by
  unfold gSb at q
  cases e : δ[i]? with
  | none =>
    rw [e] at q
    exact q.elim
  | some s =>
    rw [e] at q
    cases s with
    | own es =>
      obtain ⟨w, hw, p, xs, e1, _⟩ := m.ok i _ e
      subst e1
      refine ⟨.ref p, hw, ha F O δ σ B H m _ q _ fun x y δ1 B1 H1 m1 g1 r1 q1 => ?_⟩
      cases x with
      | int j =>
        cases e2 : δ1[i]? with
        | none =>
          rw [e2] at q1
          exact q1.elim
        | some s2 =>
          rw [e2] at q1
          cases s2 with
          | own ds =>
            obtain ⟨⟨j0, j1⟩, q2⟩ := q1
            obtain ⟨w2, hw2, p2, xs2, f1, f2, f3, f4, f5, f6⟩ := m1.ok i _ e2
            rw [hw] at hw2
            cases hw2
            cases f1
            have hl : j.toNat < xs2.length := by rw [f6.length]; omega
            refine ⟨p, xs2, j, j.toNat, rfl, r1, f5, ?_, ?_⟩
            · unfold ixN
              rw [if_pos j0, if_pos (by omega)]
            · obtain ⟨m2, g2⟩ := m1.own_upd (t := .own (ds.set j.toNat d)) (o := .lst (xs2.set j.toNat v)) e2 rfl hw ⟨p, _, rfl, f2, f3, f4, upd_same, f6.set _ (Rep.mono g1.eb d v r)⟩ rfl
              exact k _ _ _ _ m2 (g1.trans g2) q2
          | _ => exact q1.elim
      | _ => exact q1.elim
    | _ => exact q.elim
theorem gSb_ex {i : Nat} {a : DTE} (h : ∀ δ Q, a δ Q → ∃ d δ', Q d δ') : ∀ d δ Q, gSb i a d δ Q → ∃ δ', Q δ' := fun d δ Q q => by
  unfold gSb at q
  cases e : δ[i]? with
  | none =>
    rw [e] at q
    exact q.elim
  | some s =>
    rw [e] at q
    cases s with
    | own es =>
      obtain ⟨x, δ1, q1⟩ := h _ _ q
      cases x with
      | int j =>
        cases e2 : δ1[i]? with
        | none =>
          rw [e2] at q1
          exact q1.elim
        | some s2 =>
          rw [e2] at q1
          cases s2 with
          | own ds => exact ⟨_, q1.2⟩
          | _ => exact q1.elim
      | _ => exact q1.elim
    | _ => exact q.elim
theorem rs_while {tb : TS} {bd : DTS} (hc : RefT G tc c) (hb : RefS G tb bd) : RefS G (tWhile tc tb) (dWhile c bd) := fun F O δ σ B H m E q N e => by
  obtain ⟨W, ⟨m0, w0⟩, st⟩ := q
  refine ⟨fun n σ' H' => ∃ δ' B', Mat G F O δ' σ' B' H' ∧ Go O B H B' H' ∧ W n δ', ⟨m0, δ, B, m, .refl O B H, w0⟩, ?_⟩
  rintro n σ1 H1 ⟨δ1, B1, m1, g1, w1⟩
  refine hc F O δ1 σ1 B1 H1 m1 _ (st n δ1 w1) _ fun k δ2 B2 H2 m2 g2 q2 => ?_
  cases k with
  | true =>
    refine iteT ⟨fun σ' H' => ∃ m', m' < n ∧ ∃ δ' B', Mat G F O δ' σ' B' H' ∧ Go O B H B' H' ∧ W m' δ', fun σ' H' h => h, ?_⟩
    have g12 := g1.trans g2
    refine hb F O δ2 σ1 B2 H2 m2 _ q2 _ ⟨fun δ3 σ3 B3 H3 m3 g3 q3 => ?_, fun d v δ3 σ3 B3 H3 m3 g3 r3 q3 => e.rt d v δ3 σ3 B3 H3 m3 (g12.trans g3) r3 q3, fun δ3 σ3 B3 H3 m3 g3 q3 => e.nx δ3 σ3 B3 H3 m3 (g12.trans g3) q3, fun δ3 σ3 B3 H3 m3 g3 q3 => ?_⟩
    · obtain ⟨m', hm, w3⟩ := q3
      exact ⟨m', hm, δ3, B3, m3, g12.trans g3, w3⟩
    · obtain ⟨m', hm, w3⟩ := q3
      exact ⟨m', hm, δ3, B3, m3, g12.trans g3, w3⟩
  | false => exact iteF (e.nx δ2 σ1 B2 H2 m2 (g1.trans g2) q2)
theorem rs_for {wi : TI} {dw : DTI} {g : TG} {dg : DTG} {tb : TS} {bd : DTS} {vs : List Nat} (hi : RefI G wi dw) (hg : RefN G vs g dg) (hb : RefS G tb bd) : RefS G (tFor wi g tb) (dFor dw dg bd) := fun F O δ σ B H m E q N e =>
  hi F O δ σ B H m _ q _ fun J n W Y ds δ1 B1 H1 w hn m1 g1 hW hY q1 => by
    obtain ⟨Z, z0, zs, zd⟩ := q1
    refine for_it w (fun i σ2 H2 => ∃ δ2 B2, Mat G F O δ2 σ2 B2 H2 ∧ Go O B1 H1 B2 H2 ∧ Z (ds.drop i) δ2) ⟨δ1, B1, m1, .refl O B1 H1, z0⟩ ?_ ?_ ?_
    · rintro i σ2 H2 _ ⟨δ2, B2, m2, g2, _⟩
      exact hW B2 H2 g2.eb m2.ex
    · rintro i x σ2 H2 H3 hin ⟨δ2, B2, m2, g2, q2⟩ hy
      obtain ⟨B3, d, hd, n3, r3⟩ := hY i x B2 H2 H3 hin g2.eb m2.ex m2.ff hy
      have ed : ds.drop i = d :: ds.drop (i + 1) := by
        obtain ⟨h1, h2⟩ := List.getElem?_eq_some_iff.mp hd
        rw [List.drop_eq_getElem_cons h1, h2]
      rw [ed] at q2
      have q2 := zs d _ δ2 q2
      have m3 := m2.nw n3
      have g3 : Go O B1 H1 B3 H3 := g2.trans n3.go
      refine hg F O δ2 σ2 B3 H3 m3 d x r3 _ q2 _ fun δ4 σ4 m4 _ q4 => ?_
      have G1 : Go O B H B3 H3 := g1.trans g3
      exact hb F O δ4 σ4 B3 H3 m4 _ q4 _ ⟨fun δ5 σ5 B5 H5 m5 g5 q5 => ⟨δ5, B5, m5, g3.trans g5, q5⟩, fun d v δ5 σ5 B5 H5 m5 g5 r5 q5 => e.rt d v δ5 σ5 B5 H5 m5 (G1.trans g5) r5 q5,
        fun δ5 σ5 B5 H5 m5 g5 q5 => e.nx δ5 σ5 B5 H5 m5 (G1.trans g5) q5, fun δ5 σ5 B5 H5 m5 g5 q5 => ⟨δ5, B5, m5, g3.trans g5, q5⟩⟩
    · rintro σ2 H2 ⟨δ2, B2, m2, g2, q2⟩
      rw [← hn, List.drop_length] at q2
      exact e.nx δ2 σ2 B2 H2 m2 (g1.trans g2) (zd δ2 q2)
end
end K26
set_option Elab.async false
set_option linter.all false
set_option maxRecDepth 100000
set_option maxHeartbeats 1000000
namespace K26
open PySem PySem.Spec PyProof.Rows L2

/-! ## own lists, pairs stored, comprehensions, what is walked -/
/-- something about the own list at slot i -/
def ownS (i : Nat) (δ : DS) (Q : List D → Prop) : Prop := match δ[i]? with
  | some (.own ds) => Q ds
  | _ => False
theorem ownS_inv {i : Nat} {δ : DS} {Q : List D → Prop} (h : ownS i δ Q) : ∃ ds, δ[i]? = some (.own ds) ∧ Q ds := by
  unfold ownS at h
  cases e : δ[i]? with
  | none =>
    rw [e] at h
    exact h.elim
  | some s =>
    rw [e] at h
    cases s with
    | own ds => exact ⟨ds, rfl, h⟩
    | _ => exact h.elim
def dAppend (i : Nat) (a : DTE) : DTS := fun E δ => ownS i δ fun _ => a δ fun x δ1 => ownS i δ1 fun ds => ds.length < 100000 ∧ E.nx (δ1.set i (.own (ds ++ [x])))
def dExtend (i : Nat) (a : DTE) : DTS := fun E δ => ownS i δ fun _ => a δ fun x δ1 => ownS i δ1 fun ds => match x with
  | .lst es => ds.length + es.length < 100000 ∧ E.nx (δ1.set i (.own (ds ++ es)))
  | _ => False
def dPop (i : Nat) : DTE := fun δ Q => ownS i δ fun ds => ∃ d, ds[ds.length - 1]? = some d ∧ Q d (δ.set i (.own ds.dropLast))
def dPopAt (i : Nat) (a : DTE) : DTE := fun δ Q => ownS i δ fun _ => a δ fun x δ1 => ownS i δ1 fun ds => match x with
  | .int j => (0 ≤ j ∧ j < 100000) ∧ ∃ d, ds[j.toNat]? = some d ∧ Q d (δ1.set i (.own (ds.eraseIdx j.toNat)))
  | _ => False
def dIxO (i : Nat) (a : DTE) : DTE := fun δ Q => ownS i δ fun _ => a δ fun x δ1 => ownS i δ1 fun ds => match x with
  | .int j => ∃ d, atI ds j = some d ∧ Q d δ1
  | _ => False
def dLenO (i : Nat) : DTE := fun δ Q => ownS i δ fun ds => Q (.int ds.length) δ
def dNilO (i : Nat) : DTE := fun δ Q => ownS i δ fun ds => (D.flats ds = true ∧ SeqAt.shaped (.list (D.pys ds)) = true) ∧ Q (.bl (!ds.isEmpty)) δ
def dNotInO (a : DTE) (i : Nat) : DTE := fun δ Q => a δ fun x δ1 => ownS i δ1 fun ds => (x.flat = true ∧ D.flats ds = true ∧ SeqAt.shaped x.py = true ∧ SeqAt.shaped (.list (D.pys ds)) = true) ∧ Q (.bl (!(D.pys ds).any fun z => PyData.eqv z x.py)) δ1

section
variable {G : Gx} {ta tb te : TE} {a b : DTE}
theorem own_tv {F O : Addr → Prop} {δ : DS} {σ : L2.St} {B H : Hp} (m : Mat G F O δ σ B H) {i : Nat} {ds : List D} (h : δ[i]? = some (.own ds)) : ∃ p xs, σ[i]? = some (some (.ref p)) ∧ B p = none ∧ O p ∧ F p ∧ H p = some (.lst xs) ∧ Reps G F B ds xs := by
  obtain ⟨v, hv, p, xs, e, k⟩ := m.ok i _ h
  subst e
  exact ⟨p, xs, hv, k⟩
theorem same_v {σ : L2.St} {i : Nat} {p q : Addr} (h : σ[i]? = some (some (.ref p))) (h' : σ[i]? = some (some (.ref q))) : q = p := by
  rw [h] at h'
  cases h'
  rfl
theorem ap_small {n : Nat} (h : n < 100000) : n < sizeLine := by rw [sizeLine_eq]; omega
theorem rs_append {i : Nat} (ha : RefE G ta a) : RefS G (tDrop (tBM G.K "list" rAppend (tVar i) (tCons ta tNil))) (dAppend i a) := fun F O δ σ B H m E q N e => by
  obtain ⟨_, h0, q⟩ := ownS_inv q
  obtain ⟨p, xs, hv, _, _, _, hp, _⟩ := own_tv m h0
  refine ⟨.ref p, hv, .inl ⟨rfl, xs, .inl (.inl hp)⟩, ha F O δ σ B H m _ q _ fun x v δ1 B1 H1 m1 g1 r1 q1 => ?_⟩
  obtain ⟨ds, h1, hl, q2⟩ := ownS_inv q1
  obtain ⟨p', ys, hv', k1, k2, k3, k4, k5⟩ := own_tv m1 h1
  have ep := same_v hv hv'
  subst ep
  refine ⟨p', ys, v, rfl, rfl, k4, by rw [k5.length]; exact ap_small hl, ?_⟩
  obtain ⟨m2, g2⟩ := m1.own_upd (t := .own (ds ++ [x])) (o := .lst (ys ++ [v])) h1 rfl hv ⟨p', _, rfl, k1, k2, k3, upd_same, k5.app (.one r1)⟩ rfl
  exact e.nx _ _ _ _ m2 (g1.trans g2) q2
theorem rs_extend {i : Nat} (ha : RefE G ta a) : RefS G (tDrop (tBM G.K "list" rExtend (tVar i) (tCons ta tNil))) (dExtend i a) := fun F O δ σ B H m E q N e => by
  obtain ⟨_, h0, q⟩ := ownS_inv q
  obtain ⟨p, xs, hv, _, _, _, hp, _⟩ := own_tv m h0
  refine ⟨.ref p, hv, .inl ⟨rfl, xs, .inl (.inl hp)⟩, ha F O δ σ B H m _ q _ fun x v δ1 B1 H1 m1 g1 r1 q1 => ?_⟩
  obtain ⟨ds, h1, q2⟩ := ownS_inv q1
  cases x with
  | lst es =>
    obtain ⟨hl, q2⟩ := q2
    obtain ⟨p', ys, hv', k1, k2, k3, k4, k5⟩ := own_tv m1 h1
    have ep := same_v hv hv'
    subst ep
    obtain ⟨l, zs, e1, e2, e3⟩ := r1
    subst e1
    refine ⟨p', l, ys, zs, rfl, rfl, k4, m1.ex _ _ e2, by rw [k5.length, e3.length]; exact Nat.le_of_lt (ap_small hl), ?_⟩
    obtain ⟨m2, g2⟩ := m1.own_upd (t := .own (ds ++ es)) (o := .lst (ys ++ zs)) h1 rfl hv ⟨p', _, rfl, k1, k2, k3, upd_same, k5.app e3⟩ rfl
    exact e.nx _ _ _ _ m2 (g1.trans g2) q2
  | _ => exact q2.elim
theorem ref_pop {i : Nat} : RefE G (tBM0 G.K "list" rPop (tVar i)) (dPop i) := fun F O δ σ B H m DQ q Q k => by
  obtain ⟨ds, h0, d, hd, q⟩ := ownS_inv q
  obtain ⟨p, xs, hv, k1, k2, k3, hp, hr⟩ := own_tv m h0
  obtain ⟨v, hv2, rv⟩ := hr.get hd
  refine ⟨.ref p, hv, .inl ⟨rfl, xs, .inl (.inl hp)⟩, p, xs, v, rfl, rfl, hp, by rw [hr.length]; exact hv2, ?_⟩
  obtain ⟨m2, g2⟩ := m.own_upd (t := .own ds.dropLast) (o := .lst xs.dropLast) h0 rfl hv ⟨p, _, rfl, k1, k2, k3, upd_same, hr.dropLast⟩ rfl
  exact k d v _ _ _ m2 g2 rv q
theorem ref_popAt {i : Nat} (ha : RefE G ta a) : RefE G (tBM G.K "list" rPopAt (tVar i) (tCons ta tNil)) (dPopAt i a) := fun F O δ σ B H m DQ q Q k => by
  obtain ⟨_, h0, q⟩ := ownS_inv q
  obtain ⟨p, xs, hv, _, _, _, hp, _⟩ := own_tv m h0
  refine ⟨.ref p, hv, .inl ⟨rfl, xs, .inl (.inl hp)⟩, ha F O δ σ B H m _ q _ fun x v δ1 B1 H1 m1 g1 r1 q1 => ?_⟩
  obtain ⟨ds, h1, q2⟩ := ownS_inv q1
  cases x with
  | int j =>
    obtain ⟨⟨j0, j1⟩, d, hd, q2⟩ := q2
    obtain ⟨p', ys, hv', k1, k2, k3, k4, k5⟩ := own_tv m1 h1
    have ep := same_v hv hv'
    subst ep
    obtain ⟨u, hu, ru⟩ := k5.get hd
    have hlt := (List.getElem?_eq_some_iff.mp hu).1
    refine ⟨p', ys, j, j.toNat, u, rfl, congrArg (fun z => [z]) (show v = .int j from r1), k4, by omega, by omega, ?_, hu, ?_⟩
    · exact (ixN_seq (by unfold ixN; rw [if_pos j0, if_pos (by omega)])).1
    · obtain ⟨m2, g2⟩ := m1.own_upd (t := .own (ds.eraseIdx j.toNat)) (o := .lst (ys.eraseIdx j.toNat)) h1 rfl hv ⟨p', _, rfl, k1, k2, k3, upd_same, k5.erase _⟩ rfl
      exact k d u _ _ _ m2 (g1.trans g2) ru q2
  | _ => exact q2.elim
theorem atI_reps {F : Addr → Prop} {B : Hp} {ds : List D} {xs : List V} {j : Int} {d : D} (h : Reps G F B ds xs) (e : atI ds j = some d) : ∃ v, atI xs j = some v ∧ Rep G F B d v := by
  unfold atI at e ⊢
  rw [h.length]
  cases q : ixN ds.length j with
  | none =>
    rw [q] at e
    cases e
  | some i =>
    rw [q] at e
    exact h.get e
theorem ref_ixO {i : Nat} (ha : RefE G ta a) : RefE G (tOp (rIx G.K) (tVar i) ta) (dIxO i a) := fun F O δ σ B H m DQ q Q k => by
  obtain ⟨_, h0, q⟩ := ownS_inv q
  obtain ⟨p, xs, hv, _, _, _, hp, _⟩ := own_tv m h0
  refine ⟨.ref p, hv, ha F O δ σ B H m _ q _ fun x v δ1 B1 H1 m1 g1 r1 q1 => ?_⟩
  obtain ⟨ds, h1, q2⟩ := ownS_inv q1
  cases x with
  | int j =>
    obtain ⟨d, hd, q2⟩ := q2
    obtain ⟨p', ys, hv', k1, k2, k3, k4, k5⟩ := own_tv m1 h1
    have ep := same_v hv hv'
    subst ep
    obtain ⟨u, hu, ru⟩ := atI_reps k5 hd
    exact .inl ⟨p', ys, j, u, rfl, r1, .inl (.inl k4), hu, k d u δ1 B1 H1 m1 g1 ru q2⟩
  | _ => exact q2.elim
def rLen2 (K : PySem.W.Frag) : List V → Hp → VK → Prop := fun xs H Q => ∃ p ys, xs = [.ref p] ∧ (SqL K H p ys ∨ SqT K H p ys) ∧ Q (.int ys.length) H
theorem ref_lenO {i : Nat} : RefE G (tCB (rLen2 G.K) (tCons (tVar i) tNil)) (dLenO i) := fun F O δ σ B H m DQ q Q k => by
  obtain ⟨ds, h0, q⟩ := ownS_inv q
  obtain ⟨p, xs, hv, _, _, _, hp, hr⟩ := own_tv m h0
  exact ⟨.ref p, hv, p, xs, rfl, .inl (.inl (.inl hp)), k (.int ds.length) _ δ B H m (.refl O B H) (by rw [hr.length]; rfl) q⟩
theorem own_dp {F O : Addr → Prop} {δ : DS} {σ : L2.St} {B H : Hp} (m : Mat G F O δ σ B H) {ds : List D} {xs : List V} {p : Addr} (hp : H p = some (.lst xs)) (hr : Reps G F B ds xs) (hf : D.flats ds = true) : Dp G.K H (.ref p) (.list (D.pys ds)) :=
  .lst (.inl (.inl hp)) (Reps.dp m.ex ds xs hf hr)
theorem ref_nilO {i : Nat} : RefE G (tOp (rNeD G.K) (tVar i) (tLst tNil)) (dNilO i) := fun F O δ σ B H m DQ q Q k => by
  obtain ⟨ds, h0, ⟨hf, hs⟩, q⟩ := ownS_inv q
  obtain ⟨p, xs, hv, _, _, _, hp, hr⟩ := own_tv m h0
  refine ⟨.ref p, hv, Nat.zero_le _, fun u hu => ?_⟩
  have n := Nw.side (o := .lst []) m.ex hu
  have hne : p ≠ u := ne_of_none hp hu
  refine ⟨.list (D.pys ds), .list [], own_dp (m.nw n) (by rw [upd_ne hne]; exact hp) hr hf, .lst (.inl (.inl upd_same)) .nil, hs, rfl, ?_⟩
  have e : PyData.eqv (.list (D.pys ds)) (.list []) = ds.isEmpty := by
    cases ds with
    | nil => rfl
    | cons d ds => rfl
  rw [e]
  exact k (.bl (!ds.isEmpty)) _ δ _ _ (m.nw n) n.go rfl q
theorem ref_notInO {i : Nat} (ha : RefE G ta a) : RefE G (tOp (rNotInD G.K) ta (tVar i)) (dNotInO a i) := fun F O δ σ B H m DQ q Q k =>
  ha F O δ σ B H m _ q _ fun x v δ1 B1 H1 m1 g1 r1 q1 => by
    obtain ⟨ds, h1, ⟨f1, f2, s1, s2⟩, q2⟩ := ownS_inv q1
    obtain ⟨p, xs, hv, _, _, _, hp, hr⟩ := own_tv m1 h1
    exact ⟨.ref p, hv, x.py, D.pys ds, Rep.dp m1.ex x v f1 r1, own_dp m1 hp hr f2, s1, s2, k (.bl (!(D.pys ds).any fun z => PyData.eqv z x.py)) _ δ1 B1 H1 m1 g1 rfl q2⟩
end

/-! ### two at once -/
theorem Mat.guard {G : Gx} {F O : Addr → Prop} {δ : DS} {σ : L2.St} {B H : Hp} {p : Addr} (m : Mat G F O δ σ B H) (hp : H p ≠ none) (hn : ∀ (j : Nat) (u : Sl), δ[j]? = some u → u.isOwn = true → σ[j]? ≠ some (some (.ref p))) : Mat G F (fun a => O a ∧ a ≠ p) δ σ B H :=
  m.setO (fun a h => ⟨m.fo a h, fun z => hp (z ▸ h)⟩) fun i s a hs ho hv => by
    obtain ⟨v, hv2, k⟩ := m.ok i s hs
    rw [hv] at hv2
    cases hv2
    exact ⟨(k.own_at ho rfl).2.1, fun z => hn i s hs ho (z ▸ hv)⟩
theorem Mat.unguard {G : Gx} {F O : Addr → Prop} {δ : DS} {σ : L2.St} {B H : Hp} {p : Addr} (m : Mat G F (fun a => O a ∧ a ≠ p) δ σ B H) : Mat G F O δ σ B H :=
  m.setO (fun a h => (m.fo a h).1) fun i s a hs ho hv => by
    obtain ⟨v, hv2, k⟩ := m.ok i s hs
    rw [hv] at hv2
    cases hv2
    exact (k.own_at ho rfl).2.1.1
theorem Mat.off {G : Gx} {F O : Addr → Prop} {δ : DS} {σ : L2.St} {B H : Hp} (m : Mat G F O δ σ B H) {p : Addr} (hO : ¬ O p) {j : Nat} {u : Sl} (hu : δ[j]? = some u) (u1 : u.isOwn = true) : σ[j]? ≠ some (some (.ref p)) := fun z => by
  obtain ⟨v, hv2, k⟩ := m.ok j u hu
  rw [z] at hv2
  cases hv2
  exact hO (k.own_at u1 rfl).2.1
section
variable {G : Gx} {ta tb : TE} {a b : DTV}
theorem par_core {F O : Addr → Prop} {δ : DS} {σ : L2.St} {B H : Hp} {E : DEnds} {i j : Nat} (hij : i ≠ j) (ha : RefV G ta a) (hb : RefV G tb b) (m : Mat G F O δ σ B H) (q : dPar i j a b E δ) {Q : List V → Hp → Prop}
    (kk : ∀ v w δ' B' H', Mat G F O δ' ((σ.set i (some v)).set j (some w)) B' H' → Go O B H B' H' → E.nx δ' → Q [v, w] H') : tCons ta (tCons tb tNil) σ H Q :=
  ha F O δ σ B H m _ q _ fun s v δ1 B1 H1 m1 g1 k1 f1 q1 => by
    cases ho : s.isOwn with
    | false =>
      refine hb F O δ1 σ B1 H1 m1 _ q1 _ fun t w δ2 B2 H2 m2 g2 k2 f2 q2 => ?_
      obtain ⟨i1, q3⟩ := putS_inv q2
      obtain ⟨j1, q4⟩ := putS_inv q3
      have k1' : SlOk G F O B2 H2 s (some v) := k1.step g2.eb fun a o h => by rw [ho] at h; cases h
      have m3 := m2.put i1 k1' fun h => by rw [ho] at h; cases h
      refine kk v w _ _ _ (m3.put j1 k2 fun o => ?_) (g1.trans g2) q4
      obtain ⟨p, e1, _, e3⟩ := f2 o
      refine ⟨p, e1, fun l u hu u1 z => ?_⟩
      by_cases hl : i = l
      · subst hl
        rw [List.getElem?_set_self i1] at hu
        cases hu
        rw [ho] at u1
        cases u1
      · rw [List.getElem?_set_ne hl] at hu z
        exact e3 l u hu u1 z
    | true =>
      obtain ⟨p, e1, h1, n1⟩ := f1 ho
      obtain ⟨pb, pO, pF, pH⟩ := k1.own_at ho (congrArg some e1)
      have mg := m1.guard pH n1
      refine hb F _ δ1 σ B1 H1 mg _ q1 _ fun t w δ2 B2 H2 m2 g2 k2 f2 q2 => ?_
      obtain ⟨i1, q3⟩ := putS_inv q2
      obtain ⟨j1, q4⟩ := putS_inv q3
      have g2' : Go O B1 H1 B2 H2 := g2.weak fun a h => h.1
      have kp : ∀ o, H1 p = some o → H2 p = some o ∧ B2 p = none := fun o h => g2.kp p o h pb fun z => z.2 rfl
      have k1' : SlOk G F O B2 H2 s (some v) := k1.step g2.eb fun a o _ ev ha => by
        have ea : a = p := by
          rw [e1] at ev
          cases ev
          rfl
        subst ea
        exact kp o ha
      have off : ∀ (l : Nat) (u : Sl), δ2[l]? = some u → u.isOwn = true → σ[l]? ≠ some (some (.ref p)) := fun l u hu u1 => m2.off (fun z => z.2 rfl) hu u1
      have m3 := m2.unguard.put i1 k1' fun _ => ⟨p, e1, off⟩
      have k2' : SlOk G F O B2 H2 t (some w) := k2.setO fun a h1 h2 => (k2.own_at h1 h2).2.1.1
      refine kk v w _ _ _ (m3.put j1 k2' fun o => ?_) (g1.trans g2') q4
      obtain ⟨p2, e2, d1, e3⟩ := f2 o
      refine ⟨p2, e2, fun l u hu u1 z => ?_⟩
      by_cases hl : i = l
      · subst hl
        have hil : i < σ.length := by rw [← m2.len]; exact i1
        rw [List.getElem?_set_self hil, e1] at z
        have ez : p = p2 := by
          injection z with z
          injection z with z
          injection z
        rw [← ez] at d1
        exact pH d1
      · rw [List.getElem?_set_ne hl] at hu z
        exact e3 l u hu u1 z
theorem rs_par {i j : Nat} (hij : i ≠ j) (ha : RefV G ta a) (hb : RefV G tb b) : RefS G (tPar i j (tCons ta (tCons tb tNil))) (dPar i j a b) := fun F O δ σ B H m E q N e =>
  par_core hij ha hb m q fun v w δ' B' H' m' g' q' => ⟨v, w, rfl, e.nx _ _ _ _ m' g' q'⟩
/-- the same by a pair that is made and taken apart -/
theorem rs_parT {i j : Nat} (hij : i ≠ j) (ha : RefV G ta a) (hb : RefV G tb b) : RefS G (tAsg (tTup (tCons ta (tCons tb tNil))) (gTup G.K 2 (gCons (gName i) (gCons (gName j) gNil)))) (dPar i j a b) := fun F O δ σ B H m E q N e => by
  show tCons ta (tCons tb tNil) σ H fun xs H1 => xs.length ≤ sizeLine ∧ ∀ p, H1 p = none → (fun v H2 => gTup G.K 2 (gCons (gName i) (gCons (gName j) gNil)) v σ H2 N.nx) (.ref p) (upd H1 p (.tup xs))
  refine par_core hij ha hb m q fun v w δ' B' H' m' g' q' => ⟨(by rw [sizeLine_eq, List.length_cons, List.length_singleton]; omega), fun p hp => ?_⟩
  have n := Nw.side (o := .tup [v, w]) m'.ex hp
  exact ⟨p, [v, w], rfl, .inl (.inl upd_same), rfl, v, [w], rfl, w, [], rfl, rfl, e.nx _ _ _ _ (m'.nw n) (g'.trans n.go) q'⟩
end

/-! ### comprehensions -/
def wipeD (δ : DS) : List Nat → DS
  | [] => δ
  | v :: vs => (wipeD δ vs).set v .no
theorem wipeD_len (δ : DS) : ∀ vs, (wipeD δ vs).length = δ.length
  | [] => rfl
  | v :: vs => by
    show ((wipeD δ vs).set v .no).length = _
    rw [List.length_set, wipeD_len δ vs]
theorem wipeD_out {δ : DS} {i : Nat} : ∀ {vs : List Nat}, i ∉ vs → (wipeD δ vs)[i]? = δ[i]?
  | [], _ => rfl
  | v :: vs, h => by
    show ((wipeD δ vs).set v .no)[i]? = _
    rw [List.getElem?_set_ne (fun z => h (by rw [z]; exact List.mem_cons_self))]
    exact wipeD_out fun z => h (List.mem_cons_of_mem _ z)
theorem wipeD_in {δ : DS} {i : Nat} {s : Sl} : ∀ {vs : List Nat}, i ∈ vs → (wipeD δ vs)[i]? = some s → s = .no
  | v :: vs, h, e => by
    have e' : ((wipeD δ vs).set v .no)[i]? = some s := e
    by_cases z : v = i
    · subst z
      rw [List.getElem?_set] at e'
      rw [if_pos rfl] at e'
      split at e'
      · exact (Option.some.inj e').symm
      · cases e'
    · rw [List.getElem?_set_ne z] at e'
      rcases List.mem_cons.mp h with q | q
      · exact absurd q.symm z
      · exact wipeD_in q e'
def noOwn (δ : DS) (vs : List Nat) : Bool := vs.all fun i => match δ[i]? with
  | some s => !s.isOwn
  | none => true
def dLcL (g : DTG) (t : DTT) (a : DTE) (vs : List Nat) (δ : DS) (Q : List D → Prop) : List D → List D → Prop
  | [], acc => Q acc
  | d :: ds, acc => g d (wipeD δ vs) fun δ2 => t δ2 fun b δ3 => match b with
    | true => a δ3 fun y δ4 => wipeD δ4 vs = wipeD δ vs ∧ dLcL g t a vs δ Q ds (acc ++ [y])
    | false => wipeD δ3 vs = wipeD δ vs ∧ dLcL g t a vs δ Q ds acc
def dLcW (w : DTI) (g : DTG) (t : DTT) (a : DTE) (vs : List Nat) (δ : DS) (Q : List D → DS → Prop) : Prop := w δ fun ds δ1 => noOwn δ1 vs = true ∧ ds.length < 100000 ∧ dLcL g t a vs δ1 (fun acc => Q acc δ1) ds []
def dLc (w : DTI) (g : DTG) (t : DTT) (a : DTE) (vs : List Nat) : DTE := fun δ Q => dLcW w g t a vs δ fun acc δ1 => Q (.lst acc) δ1
def dLcN (w : DTI) (g : DTG) (t : DTT) (a : DTE) (vs : List Nat) : DTE := fun δ Q => dLcW w g t a vs δ fun acc δ1 => Q (.new acc) δ1
def dYes : DTT := fun δ Q => Q true δ
/-- a comprehension by its test and its element -/
theorem lcL_by {g : DTG} {t : DTT} {a : DTE} {vs : List Nat} {δ : DS} (p : D → Bool) (f : D → D) : ∀ (ds : List D) (acc : List D) (Q : List D → Prop),
    (∀ d ∈ ds, ∀ (K : D → Prop) (K' : Prop), (p d = true → K (f d)) → (p d = false → K') → g d (wipeD δ vs) fun δ2 => t δ2 fun b δ3 => match b with
      | true => a δ3 fun y δ4 => wipeD δ4 vs = wipeD δ vs ∧ K y
      | false => wipeD δ3 vs = wipeD δ vs ∧ K') → Q (acc ++ (ds.filter p).map f) → dLcL g t a vs δ Q ds acc
  | [], acc, Q, _, q => by
    rw [List.filter_nil, List.map_nil, List.append_nil] at q
    exact q
  | d :: ds, acc, Q, h, q => h d List.mem_cons_self (fun y => dLcL g t a vs δ Q ds (acc ++ [y])) (dLcL g t a vs δ Q ds acc)
      (fun e => lcL_by p f ds _ Q (fun x hx => h x (List.mem_cons_of_mem _ hx)) (by
        rw [List.filter_cons, if_pos e, List.map_cons] at q
        rw [List.append_assoc]
        exact q))
      (fun e => lcL_by p f ds _ Q (fun x hx => h x (List.mem_cons_of_mem _ hx)) (by
        rw [List.filter_cons, if_neg (by rw [e]; decide)] at q
        exact q))

section
variable {G : Gx} {F O : Addr → Prop} {δ δ4 : DS} {σ σ4 : L2.St} {B H B4 H4 : Hp} {vs : List Nat}
theorem Mat.wiped (m : Mat G F O δ σ B H) : Mat G F O (wipeD δ vs) (wipe σ vs) B H := by
  refine ⟨m.ex, m.fo, m.ff, by rw [wipeD_len, wipe_len]; exact m.len, fun i s hs => ?_, fun i j s t b hij hs ht s1 t1 e1 e2 => ?_⟩
  · by_cases hi : i ∈ vs
    · rw [wipeD_in hi hs]
      have hl : i < (wipe σ vs).length := by
        rw [wipe_len, ← m.len, ← wipeD_len δ vs]
        exact (List.getElem?_eq_some_iff.mp hs).1
      exact ⟨_, List.getElem?_eq_getElem hl, trivial⟩
    · rw [wipeD_out hi] at hs
      obtain ⟨v, hv, k⟩ := m.ok i s hs
      exact ⟨v, by rw [wipe_out hi]; exact hv, k⟩
  · have hi : i ∉ vs := fun z => by
      rw [wipeD_in z hs] at s1
      cases s1
    have hj : j ∉ vs := fun z => by
      rw [wipeD_in z ht] at t1
      cases t1
    rw [wipeD_out hi] at hs
    rw [wipeD_out hj] at ht
    rw [wipe_out hi] at e1
    rw [wipe_out hj] at e2
    exact m.dj i j s t b hij hs ht s1 t1 e1 e2
theorem noOwn_at (h : noOwn δ vs = true) {i : Nat} {s : Sl} (hi : i ∈ vs) (hs : δ[i]? = some s) : s.isOwn = false := by
  have q := List.all_eq_true.mp h i hi
  rw [hs] at q
  have q' : (!s.isOwn) = true := q
  cases e : s.isOwn with
  | false => rfl
  | true =>
    rw [e] at q'
    cases q'
theorem Mat.rewipe (m : Mat G F O δ σ B H) (m4 : Mat G F O δ4 σ4 B4 H4) (eb : Ex B B4) (hw : wipeD δ4 vs = wipeD δ vs) (hs : wipe σ4 vs = wipe σ vs) (no : noOwn δ vs = true) : Mat G F O δ σ B4 H4 := by
  have at4 : ∀ {i : Nat} {s : Sl}, i ∉ vs → δ[i]? = some s → δ4[i]? = some s := fun {i s} hi h => by
    rw [← wipeD_out hi, hw, wipeD_out hi]
    exact h
  have v4 : ∀ {i : Nat}, i ∉ vs → σ4[i]? = σ[i]? := fun {i} hi => by
    rw [← wipe_out (σ := σ4) hi, hs, wipe_out hi]
  refine ⟨m4.ex, m4.fo, m4.ff, m.len, fun i s h => ?_, m.dj⟩
  by_cases hi : i ∈ vs
  · obtain ⟨v, hv, k⟩ := m.ok i s h
    have n := noOwn_at no hi h
    exact ⟨v, hv, k.step eb fun a o q => by rw [n] at q; cases q⟩
  · obtain ⟨v, hv, k⟩ := m4.ok i s (at4 hi h)
    rw [v4 hi] at hv
    exact ⟨v, hv, k⟩
/-- an object that no slot owns changes -/
theorem Mat.side (m : Mat G F O δ σ B H) {p : Addr} {o : HO} (hO : ¬ O p) (hb : B p = none) : Mat G F O δ σ B (upd H p o) :=
  ⟨m.ex.upd2 hb, fun a h => m.fo a (by
    by_cases z : a = p
    · rw [z, upd_same] at h
      cases h
    · rw [upd_ne z] at h
      exact h), fun a h => m.ff a (by
    by_cases z : a = p
    · rw [z, upd_same] at h
      cases h
    · rw [upd_ne z] at h
      exact h), m.len, fun i s hs => by
    obtain ⟨v, hv, k⟩ := m.ok i s hs
    refine ⟨v, hv, k.step (.refl B) fun a u ho ev ha => ⟨?_, (k.own_at ho ev).1⟩⟩
    have z : a ≠ p := fun z => hO (z ▸ (k.own_at ho ev).2.1)
    rw [upd_ne z]
    exact ha, m.dj⟩
/-- .. is taken in -/
theorem Mat.takeIn (m : Mat G F O δ σ B H) {p : Addr} {o : HO} (hO : ¬ O p) (hb : B p = none) (hp : H p = some o) : Mat G F O δ σ (upd B p o) H :=
  ⟨m.ex.low hp, m.fo, m.ff, m.len, fun i s hs => by
    obtain ⟨v, hv, k⟩ := m.ok i s hs
    refine ⟨v, hv, k.step (.upd hb) fun a u ho ev ha => ⟨ha, ?_⟩⟩
    have z : a ≠ p := fun z => hO (z ▸ (k.own_at ho ev).2.1)
    rw [upd_ne z]
    exact (k.own_at ho ev).1, m.dj⟩
end
section
variable {G : Gx} {wi : TI} {dw : DTI} {g : TG} {dg : DTG} {tt : TT} {dt : DTT} {te : TE} {de : DTE} {vs : List Nat}
theorem rt_yes : RefT G tYes dYes := fun F O δ σ B H m DQ q Q k => k true δ B H m (.refl O B H) q
theorem lc_core {F O : Addr → Prop} {δ : DS} {σ : L2.St} {B H : Hp} (hi : RefI G wi dw) (hg : RefN G vs g dg) (ht : RefT G tt dt) (he : RefE G te de) (m : Mat G F O δ σ B H) {DQ : List D → DS → Prop} (q : dLcW dw dg dt de vs δ DQ) {Q : VK}
    (k : ∀ acc xs p δ' B' H', Mat G F O δ' σ B' H' → Go O B H B' H' → F p → B' p = some (.lst xs) → Reps G F B' acc xs → DQ acc δ' → Q (.ref p) H') : tLc wi g tt te vs σ H Q :=
  hi F O δ σ B H m _ q _ fun J n W Y ds δ1 B1 H1 w hn m1 g1 hW hY q1 => by
    obtain ⟨no, hlen, q1⟩ := q1
    intro p hp
    have b1 : B1 p = none := m1.ex.none hp
    have n1 := Nw.side (o := .lst []) m1.ex hp
    have m2 := (m1.nw n1).guard (p := p) (by rw [upd_same]; exact fun z => nomatch z) fun j u hu u1 => m1.own_ne hp hu u1
    refine lc_it w (fun i H2 => ∃ B2 acc xs, Mat G F (fun a => O a ∧ a ≠ p) δ1 σ B2 H2 ∧ Go O B H B2 H2 ∧ Ex B1 B2 ∧ B2 p = none ∧ H2 p = some (.lst xs) ∧ Reps G F B2 acc xs ∧ acc.length ≤ i ∧ dLcL dg dt de vs δ1 (fun acc => DQ acc δ1) (ds.drop i) acc)
      ⟨B1, [], [], m2, g1.trans n1.go, .refl B1, b1, upd_same, rfl, Nat.le_refl _, q1⟩ ?_ ?_ ?_
    · rintro i H2 _ ⟨B2, acc, xs, m2, _, eb, _⟩
      exact hW B2 H2 eb m2.ex
    · rintro i x H2 H3 hin ⟨B2, acc, xs, m2, g2, eb, pb, ph, pr, pl, q2⟩ hy
      obtain ⟨B3, d, hd, n3, r3⟩ := hY i x B2 H2 H3 hin eb m2.ex m2.ff hy
      have ed : ds.drop i = d :: ds.drop (i + 1) := by
        obtain ⟨h1, h2⟩ := List.getElem?_eq_some_iff.mp hd
        rw [List.drop_eq_getElem_cons h1, h2]
      rw [ed] at q2
      have m3 := m2.nw n3
      have hnp : ¬ (O p ∧ p ≠ p) := fun z => z.2 rfl
      refine hg F _ _ _ B3 H3 m3.wiped d x r3 _ q2 _ fun δ4 σ4 m4 w4 q4 => ⟨by rw [w4]; exact wipe_idem, ?_⟩
      have w4' : wipe σ4 vs = wipe σ vs := by rw [w4]; exact wipe_idem
      refine ht F _ δ4 σ4 B3 H3 m4 _ q4 _ fun b δ5 B5 H5 m5 g5 q5 => ?_
      have g23 : Go O B2 H2 B3 H3 := n3.go
      have kp5 : H5 p = some (.lst xs) ∧ B5 p = none := by
        have h3 : H3 p = some (.lst xs) := n3.hh _ _ ph
        have hb3 : B3 p = none := n3.fr p (ne_none ph) pb
        exact g5.kp p _ h3 hb3 hnp
      cases b with
      | true =>
        refine iteT (he F _ δ5 σ4 B5 H5 m5 _ q5 _ fun y v δ6 B6 H6 m6 g6 r6 q6 => ?_)
        obtain ⟨e6, q7⟩ := q6
        have kp6 := g6.kp p _ kp5.1 kp5.2 hnp
        have eb6 : Ex B2 B6 := (n3.eb.trans g5.eb).trans g6.eb
        have m7 := m2.rewipe m6 eb6 e6 w4' no
        have g7 : Go O B H B6 H6 := ((g2.trans g23).trans (g5.weak fun a h => h.1)).trans (g6.weak fun a h => h.1)
        refine ⟨xs, kp6.1, by rw [pr.length]; exact ap_small (by omega), B6, acc ++ [y], xs ++ [v], m7.side hnp kp6.2, ?_, eb.trans eb6, kp6.2, upd_same, (Reps.mono eb6 acc xs pr).app (.one r6), ?_, q7⟩
        · refine g7.trans ⟨.refl B6, fun a o h hb hO => ⟨?_, hb⟩, fun a h => ?_⟩
          · have z : a ≠ p := fun z => hO (by rw [z]; exact m1.fo p hp)
            rw [upd_ne z]
            exact h
          · by_cases z : a = p
            · rw [z, upd_same] at h
              cases h
            · rw [upd_ne z] at h
              exact h
        · rw [List.length_append, List.length_singleton]
          omega
      | false =>
        refine iteF ?_
        obtain ⟨e5, q6⟩ := q5
        have eb5 : Ex B2 B5 := n3.eb.trans g5.eb
        have m7 := m2.rewipe m5 eb5 e5 w4' no
        exact ⟨B5, acc, xs, m7, (g2.trans g23).trans (g5.weak fun a h => h.1), eb.trans eb5, kp5.2, kp5.1, Reps.mono eb5 acc xs pr, Nat.le_succ_of_le pl, q6⟩
    · rintro H2 ⟨B2, acc, xs, m2, g2, eb, pb, ph, pr, pl, q2⟩
      rw [← hn, List.drop_length] at q2
      have hnp : ¬ (O p ∧ p ≠ p) := fun z => z.2 rfl
      have m3 := (m2.takeIn hnp pb ph).unguard
      refine k acc xs p δ1 _ H2 m3 ⟨g2.eb.trans (.upd pb), fun a o h hb hO => ?_, g2.al⟩ (m1.ff p hp) upd_same (Reps.mono (.upd pb) acc xs pr) q2
      obtain ⟨h1, h2⟩ := g2.kp a o h hb hO
      have z : a ≠ p := fun z => hO (by rw [z]; exact m1.fo p hp)
      exact ⟨h1, by rw [upd_ne z]; exact h2⟩
where
  wipe_idem {σ : L2.St} {vs : List Nat} : wipe (wipe σ vs) vs = wipe σ vs := by
    refine List.ext_getElem? fun i => ?_
    by_cases hi : i ∈ vs
    · have in1 : ∀ {τ : L2.St} {us : List Nat}, i ∈ us → (wipe τ us)[i]? = if i < τ.length then some none else none := fun {τ us} => by
        induction us with
        | nil => intro h; cases h
        | cons u us ih =>
          intro h
          show ((wipe τ us).set u none)[i]? = _
          rw [List.getElem?_set]
          by_cases z : u = i
          · rw [if_pos z, wipe_len, z]
          · rw [if_neg z]
            exact ih (by
              rcases List.mem_cons.mp h with q | q
              · exact absurd q.symm z
              · exact q)
      rw [in1 hi, in1 hi, wipe_len]
    · rw [wipe_out hi]
theorem ref_lc (hi : RefI G wi dw) (hg : RefN G vs g dg) (ht : RefT G tt dt) (he : RefE G te de) : RefE G (tLc wi g tt te vs) (dLc dw dg dt de vs) := fun F O δ σ B H m DQ q Q k =>
  lc_core hi hg ht he m q fun acc xs p δ' B' H' m' g' hF hp hr q' => k (.lst acc) _ δ' B' H' m' g' ⟨p, xs, rfl, hp, hr⟩ q'
theorem ref_lcN (hi : RefI G wi dw) (hg : RefN G vs g dg) (ht : RefT G tt dt) (he : RefE G te de) : RefE G (tLc wi g tt te vs) (dLcN dw dg dt de vs) := fun F O δ σ B H m DQ q Q k =>
  lc_core hi hg ht he m q fun acc xs p δ' B' H' m' g' hF hp hr q' => k (.new acc) _ δ' B' H' m' g' ⟨p, xs, rfl, hF, hp, hr⟩ q'
end
end K26
set_option Elab.async false
set_option linter.all false
set_option maxRecDepth 100000
set_option maxHeartbeats 1000000
namespace K26
open PySem PySem.Spec PyProof.Rows L2

/-! ## operators, built-ins -/
def iOp (C : Int → Int → Prop) (g : Int → Int → Int) : DR2 := fun d e Q => match d, e with
  | .int i, .int j => C i j ∧ Q (.int (g i j))
  | _, _ => False
def iOp0 (g : Int → Int → Int) : DR2 := fun d e Q => match d, e with
  | .int i, .int j => Q (.int (g i j))
  | _, _ => False
def cOp (p : Int → Int → Bool) : DR2 := fun d e Q => match d, e with
  | .int i, .int j => Q (.bl (p i j))
  | _, _ => False
/-- may be compared -/
structure OkD (d : D) : Prop where
  fl : d.flat = true
  sh : SeqAt.shaped d.py = true
def eqOp : DR2 := fun d e Q => (OkD d ∧ OkD e) ∧ Q (.bl (PyData.eqv d.py e.py))
def neOp : DR2 := fun d e Q => (OkD d ∧ OkD e) ∧ Q (.bl (!PyData.eqv d.py e.py))
def inOp : DR2 := fun d e Q => match e with
  | .lst es => (OkD d ∧ OkD (.lst es)) ∧ Q (.bl ((D.pys es).any fun z => PyData.eqv z d.py))
  | _ => False
def niOp : DR2 := fun d e Q => match e with
  | .lst es => (OkD d ∧ OkD (.lst es)) ∧ Q (.bl (!(D.pys es).any fun z => PyData.eqv z d.py))
  | _ => False
/-- x in (None, s) -/
def inNS : DR2 := fun d e Q => match d, e with
  | .non, .tup [.non, .int _] => Q (.bl true)
  | .int o, .tup [.non, .int s] => Q (.bl (s == o))
  | _, _ => False
def ixOp : DR2 := fun d e Q => match d, e with
  | .lst ds, .int j => ∃ x, atI ds j = some x ∧ Q x
  | .new ds, .int j => ∃ x, atI ds j = some x ∧ Q x
  | .tup ds, .int j => ∃ x, atI ds j = some x ∧ Q x
  | _, _ => False
def geOp : DR2 := fun d e Q => (OkD d ∧ OkD e ∧ PySem.W.alike d.py e.py = true ∧ d.py ≠ .none) ∧ Q (.bl (!PySem.W.dataLt d.py e.py))
def catOp : DR2 := fun d e Q => match d, e with
  | .lst a, .lst b => a.length + b.length < 100000 ∧ Q (.lst (a ++ b))
  | _, _ => False
def rGeD (K : PySem.W.Frag) : R2 := fun x y H Q => ∃ d e, Dp K H x d ∧ Dp K H y e ∧ SeqAt.shaped d = true ∧ PySem.W.alike d e = true ∧ d ≠ .none ∧ Q (.bl (!PySem.W.dataLt d e)) H
theorem shaped_depth {d : PyData} (h : SeqAt.shaped d = true) : d.depth ≤ 64 := by
  unfold SeqAt.shaped at h
  rw [Bool.and_eq_true, decide_eq_true_eq] at h
  exact h.2
theorem op_geD {X : Cx} (hu : X.A.units + 64 < cLine) : OpR X (compareOp .GtE) (rGeD X.K) := by
  intro pins s σ H x y v u Q I rx ry h
  obtain ⟨d, e, hd, he, sd, al, nn, q⟩ := h
  obtain ⟨as, r1⟩ := Dp.reads I d x v hd rx
  obtain ⟨bs, r2⟩ := Dp.reads I e y u he ry
  have := shaped_depth sd
  exact PySem.W.ge_data r1 r2 al nn (by omega) ⟨.bl _, H, I, rfl, q⟩

section
variable {G : Gx}
theorem rr_i {C : Int → Int → Prop} {g : Int → Int → Int} : RefR2 G (rI C fun i j => .int (g i j)) (iOp C g) := fun F B H x y d e ex ff rd re DQ q Q k => by
  cases d with
  | int i =>
    cases e with
    | int j => exact ⟨i, j, rd, re, q.1, k (.int (g i j)) _ B H (.refl ex) rfl q.2⟩
    | _ => exact q.elim
  | _ => exact q.elim
theorem rr_i0 {g : Int → Int → Int} : RefR2 G (rI0 fun i j => .int (g i j)) (iOp0 g) := fun F B H x y d e ex ff rd re DQ q Q k => by
  cases d with
  | int i =>
    cases e with
    | int j => exact ⟨i, j, rd, re, k (.int (g i j)) _ B H (.refl ex) rfl q⟩
    | _ => exact q.elim
  | _ => exact q.elim
theorem rr_c {p : Int → Int → Bool} : RefR2 G (rI0 fun i j => .bl (p i j)) (cOp p) := fun F B H x y d e ex ff rd re DQ q Q k => by
  cases d with
  | int i =>
    cases e with
    | int j => exact ⟨i, j, rd, re, k (.bl (p i j)) _ B H (.refl ex) rfl q⟩
    | _ => exact q.elim
  | _ => exact q.elim
theorem rr_eq : RefR2 G (rEqD G.K) eqOp := fun F B H x y d e ex ff rd re DQ q Q k =>
  ⟨d.py, e.py, Rep.dp ex d x q.1.1.fl rd, Rep.dp ex e y q.1.2.fl re, q.1.1.sh, q.1.2.sh, k (.bl (PyData.eqv d.py e.py)) _ B H (.refl ex) rfl q.2⟩
theorem rr_ne : RefR2 G (rNeD G.K) neOp := fun F B H x y d e ex ff rd re DQ q Q k =>
  ⟨d.py, e.py, Rep.dp ex d x q.1.1.fl rd, Rep.dp ex e y q.1.2.fl re, q.1.1.sh, q.1.2.sh, k (.bl (!PyData.eqv d.py e.py)) _ B H (.refl ex) rfl q.2⟩
theorem rr_in : RefR2 G (rInD G.K) inOp := fun F B H x y d e ex ff rd re DQ q Q k => by
  cases e with
  | lst es => exact ⟨d.py, D.pys es, Rep.dp ex d x q.1.1.fl rd, Rep.dp ex (.lst es) y q.1.2.fl re, q.1.1.sh, q.1.2.sh, k (.bl ((D.pys es).any fun z => PyData.eqv z d.py)) _ B H (.refl ex) rfl q.2⟩
  | _ => exact q.elim
theorem rr_ni : RefR2 G (rNotInD G.K) niOp := fun F B H x y d e ex ff rd re DQ q Q k => by
  cases e with
  | lst es => exact ⟨d.py, D.pys es, Rep.dp ex d x q.1.1.fl rd, Rep.dp ex (.lst es) y q.1.2.fl re, q.1.1.sh, q.1.2.sh, k (.bl (!(D.pys es).any fun z => PyData.eqv z d.py)) _ B H (.refl ex) rfl q.2⟩
  | _ => exact q.elim
theorem rr_ge : RefR2 G (rGeD G.K) geOp := fun F B H x y d e ex ff rd re DQ q Q k =>
  ⟨d.py, e.py, Rep.dp ex d x q.1.1.fl rd, Rep.dp ex e y q.1.2.1.fl re, q.1.1.sh, q.1.2.2.1, q.1.2.2.2, k (.bl (!PySem.W.dataLt d.py e.py)) _ B H (.refl ex) rfl q.2⟩
theorem rr_inNS : RefR2 G (rIn G.K false) inNS := fun F B H x y d e ex ff rd re DQ q Q k => by
  unfold inNS at q
  split at q
  · obtain ⟨p, xs, e1, e2, e3⟩ := re
    obtain ⟨v1, r1, f1, f2, f3⟩ := e3
    obtain ⟨v2, r2, f4, f5, f6⟩ := f3
    cases (show v1 = .non from f2)
    cases (show v2 = .int _ from f5)
    cases (show r2 = [] from f6)
    subst f4 f1 e1
    cases (show x = .non from rd)
    exact ⟨p, _, rfl, .inr (.inl (.inl (ex _ _ e2))), rfl, rfl, k (.bl true) _ B H (.refl ex) rfl q⟩
  · rename_i o s
    obtain ⟨p, xs, e1, e2, e3⟩ := re
    obtain ⟨v1, r1, f1, f2, f3⟩ := e3
    obtain ⟨v2, r2, f4, f5, f6⟩ := f3
    cases (show v1 = .non from f2)
    cases (show v2 = .int _ from f5)
    cases (show r2 = [] from f6)
    subst f4 f1 e1
    cases (show x = .int o from rd)
    refine ⟨p, _, rfl, .inr (.inl (.inl (ex _ _ e2))), rfl, rfl, k (.bl (s == o)) _ B H (.refl ex) ?_ q⟩
    show V.bl (inV (.int o) [.non, .int s]) = V.bl (s == o)
    have e : inV (.int o) [.non, .int s] = (s == o) := by
      show (eqV .non (.int o) || (eqV (.int s) (.int o) || false)) = _
      rw [Bool.or_false]
      rfl
    rw [e]
  · exact q.elim
theorem rr_ix : RefR2 G (rIx G.K) ixOp := fun F B H x y d e ex ff rd re DQ q Q k => by
  unfold ixOp at q
  split at q
  · obtain ⟨z, hz, q⟩ := q
    obtain ⟨p, xs, e1, e2, e3⟩ := rd
    obtain ⟨u, hu, ru⟩ := atI_reps e3 hz
    exact .inl ⟨p, xs, _, u, e1, re, .inl (.inl (ex _ _ e2)), hu, k z u B H (.refl ex) ru q⟩
  · obtain ⟨z, hz, q⟩ := q
    obtain ⟨p, xs, e1, _, e2, e3⟩ := rd
    obtain ⟨u, hu, ru⟩ := atI_reps e3 hz
    exact .inl ⟨p, xs, _, u, e1, re, .inl (.inl (ex _ _ e2)), hu, k z u B H (.refl ex) ru q⟩
  · obtain ⟨z, hz, q⟩ := q
    obtain ⟨p, xs, e1, e2, e3⟩ := rd
    obtain ⟨u, hu, ru⟩ := atI_reps e3 hz
    exact .inr (.inl ⟨p, xs, _, u, e1, re, .inl (.inl (ex _ _ e2)), hu, k z u B H (.refl ex) ru q⟩)
  · exact q.elim
theorem rr_cat : RefR2 G rCat catOp := fun F B H x y d e ex ff rd re DQ q Q k => by
  unfold catOp at q
  split at q
  · obtain ⟨hl, q⟩ := q
    obtain ⟨p, xs, e1, e2, e3⟩ := rd
    obtain ⟨p', ys, f1, f2, f3⟩ := re
    refine ⟨p, p', xs, ys, e1, f1, ex _ _ e2, ex _ _ f2, by rw [e3.length, f3.length]; exact Nat.le_of_lt (ap_small hl), fun u hu => ?_⟩
    have n := Nw.put (o := .lst (xs ++ ys)) ex hu
    exact k (.lst _) _ _ _ n ⟨u, _, rfl, upd_same, (Reps.mono n.eb _ _ e3).app (Reps.mono n.eb _ _ f3)⟩ q
  · exact q.elim
end

/-! ### slices -/
def cutD (ds : List D) (lo hi : Option Int) : List D := (ds.drop (HT.sIx ds.length 0 lo)).take (HT.sIx ds.length ds.length hi - HT.sIx ds.length 0 lo)
def dSlT (a : DTE) (lo hi : DTO) : DTE := fun δ Q => a δ fun x δ1 => lo δ1 fun l δ2 => hi δ2 fun u δ3 => match x with
  | .tup ds => ¬ (HT.sIx ds.length 0 l = 0 ∧ HT.sIx ds.length ds.length u = ds.length) ∧ Q (.tup (cutD ds l u)) δ3
  | _ => False
def dSlL (a : DTE) (lo hi : DTO) : DTE := fun δ Q => a δ fun x δ1 => lo δ1 fun l δ2 => hi δ2 fun u δ3 => match x with
  | .lst ds => Q (.lst (cutD ds l u)) δ3
  | _ => False
section
variable {G : Gx} {ta : TE} {a : DTE} {tl th : TO} {l h : DTO}
theorem reps_cut {F : Addr → Prop} {B : Hp} {ds : List D} {xs : List V} (r : Reps G F B ds xs) (lo hi : Option Int) : Reps G F B (cutD ds lo hi) (cutV xs lo hi) := by
  unfold cutD cutV
  rw [r.length]
  exact (r.drop _).take _
theorem ref_slT (ha : RefE G ta a) (hl : RefO G tl l) (hh : RefO G th h) : RefE G (tSl (rSlT G.K) ta tl th) (dSlT a l h) := fun F O δ σ B H m DQ q Q k =>
  ha F O δ σ B H m _ q _ fun x v δ1 B1 H1 m1 g1 r1 q1 => hl F O δ1 σ B1 H1 m1 _ q1 _ fun i δ2 B2 H2 m2 g2 q2 => hh F O δ2 σ B2 H2 m2 _ q2 _ fun j δ3 B3 H3 m3 g3 q3 => by
    cases x with
    | tup ds =>
      obtain ⟨p, xs, e1, e2, e3⟩ := r1
      have e3 := Reps.mono (g2.eb.trans g3.eb) _ _ e3
      refine ⟨p, xs, e1, .inl (.inl (m3.ex _ _ (g3.eb _ _ (g2.eb _ _ e2)))), by rw [e3.length]; exact q3.1, fun u hu => ?_⟩
      have n := Nw.put (o := .tup (cutV xs i j)) m3.ex hu
      exact k (.tup (cutD ds i j)) _ δ3 _ _ (m3.nw n) (((g1.trans g2).trans g3).trans n.go) ⟨u, _, rfl, upd_same, Reps.mono n.eb _ _ (reps_cut e3 i j)⟩ q3.2
    | _ => exact q3.elim
theorem ref_slL (ha : RefE G ta a) (hl : RefO G tl l) (hh : RefO G th h) : RefE G (tSl (rSlL G.K) ta tl th) (dSlL a l h) := fun F O δ σ B H m DQ q Q k =>
  ha F O δ σ B H m _ q _ fun x v δ1 B1 H1 m1 g1 r1 q1 => hl F O δ1 σ B1 H1 m1 _ q1 _ fun i δ2 B2 H2 m2 g2 q2 => hh F O δ2 σ B2 H2 m2 _ q2 _ fun j δ3 B3 H3 m3 g3 q3 => by
    cases x with
    | lst ds =>
      obtain ⟨p, xs, e1, e2, e3⟩ := r1
      have e3 := Reps.mono (g2.eb.trans g3.eb) _ _ e3
      refine ⟨p, xs, e1, .inl (.inl (m3.ex _ _ (g3.eb _ _ (g2.eb _ _ e2)))), fun u hu => ?_⟩
      have n := Nw.put (o := .lst (cutV xs i j)) m3.ex hu
      exact k (.lst (cutD ds i j)) _ δ3 _ _ (m3.nw n) (((g1.trans g2).trans g3).trans n.go) ⟨u, _, rfl, upd_same, Reps.mono n.eb _ _ (reps_cut e3 i j)⟩ q3
    | _ => exact q3.elim
end

/-! ### built-ins -/
def lenD : DRC := fun xs Q => match xs with
  | [.lst ds] => Q (.int ds.length)
  | [.new ds] => Q (.int ds.length)
  | [.tup ds] => Q (.int ds.length)
  | _ => False
def sumD : DRC := fun xs Q => match xs with
  | [.lst ds] => ∃ ns : List Int, ds = ns.map D.int ∧ Q (.int ns.sum)
  | _ => False
def anyD : DRC := fun xs Q => match xs with
  | [.lst ds] => ∃ bs : List Bool, ds = bs.map D.bl ∧ Q (.bl (bs.any id))
  | _ => False
def allD : DRC := fun xs Q => match xs with
  | [.lst ds] => ∃ bs : List Bool, ds = bs.map D.bl ∧ Q (.bl (bs.all id))
  | _ => False
def max2D : DRC := fun xs Q => match xs with
  | [.int i, .int j] => Q (.int (if j > i then j else i))
  | _ => False
def min2D : DRC := fun xs Q => match xs with
  | [.int i, .int j] => Q (.int (if j < i then j else i))
  | _ => False
def absD : DRC := fun xs Q => match xs with
  | [.int i] => Q (.int (if i < 0 then -i else i))
  | _ => False
def intD : DRC := fun xs Q => match xs with
  | [.int i] => Q (.int i)
  | _ => False
def divD : DRC := fun xs Q => match xs with
  | [.int i, .int j] => CDiv i j ∧ Q (.tup [.int (i / j), .int (i % j)])
  | _ => False
def listD : DRC := fun xs Q => match xs with
  | [.lst ds] => Q (.lst ds)
  | [.new ds] => Q (.lst ds)
  | _ => False
structure SortOk (ds : List D) : Prop where
  al : PySem.W.AllAlike (ds.map D.py)
  so : PySem.W.Sortable (ds.map D.py)
  dp : ∀ d ∈ ds, d.py.depth ≤ 16
  fl : D.flats ds = true
  ln : ds.length < 100000
def sortD (ds : List D) : List D := ds.mergeSort (PySem.W.dataLe false D.py)
def sortedD : DRC := fun xs Q => match xs with
  | [.lst ds] => SortOk ds ∧ Q (.lst (sortD ds))
  | _ => False
def sortedDN : DRC := fun xs Q => match xs with
  | [.lst ds] => SortOk ds ∧ Q (.new (sortD ds))
  | _ => False
def rListOf (K : PySem.W.Frag) : List V → Hp → VK → Prop := fun xs H Q => ∃ p ys, xs = [.ref p] ∧ (SqL K H p ys ∨ SqT K H p ys) ∧ ∀ l, H l = none → Q (.ref l) (upd H l (.lst ys))
def rMax2 : List V → Hp → VK → Prop := fun xs H Q => ∃ i j, xs = [.int i, .int j] ∧ Q (.int (if j > i then j else i)) H
def rMin2 : List V → Hp → VK → Prop := fun xs H Q => ∃ i j, xs = [.int i, .int j] ∧ Q (.int (if j < i then j else i)) H
def rAbs1 : List V → Hp → VK → Prop := fun xs H Q => ∃ i, xs = [.int i] ∧ Q (.int (if i < 0 then -i else i)) H
def rInt1 : List V → Hp → VK → Prop := fun xs H Q => (∃ i, xs = [.int i] ∧ Q (.int i) H) ∨ ∃ k, xs = [.bl k] ∧ Q (.int (if k then 1 else 0)) H
def rDiv2 : List V → Hp → VK → Prop := fun xs H Q => ∃ i j, xs = [.int i, .int j] ∧ CDiv i j ∧ ∀ p, H p = none → Q (.ref p) (upd H p (.tup [.int (i / j), .int (i % j)]))
/-- sorted(xs), xs of alike data; S tells what each item stands for -/
def rSortedD (K : PySem.W.Frag) : List V → Hp → VK → Prop := fun vs H Q => ∃ (a : Addr) (ys : List V) (ds : List D) (S : D → V → Prop), vs = [.ref a] ∧ SqL K H a ys ∧ Paired S ds ys ∧ (∀ d v, S d v → d ∈ ds → Dp K H v d.py) ∧ SortOk ds ∧
  ∀ p zs, H p = none → Paired S (sortD ds) zs → Q (.ref p) (upd H p (.lst zs))
theorem paired_each {S : D → V → Prop} : ∀ {ds : List D} {ys : List V} {its : List Value}, Paired S ds ys → Vals ys its → PySem.W.EachIs (fun u d => ∃ v, RelV v u ∧ S d v) its ds
  | _, _, _, .nil, .nil => .nil
  | _, _, _, .cons h t, .cons r q => .cons ⟨_, r, h⟩ (paired_each t q)
theorem each_paired {S : D → V → Prop} : ∀ {its : List Value} {ds : List D}, PySem.W.EachIs (fun u d => ∃ v, RelV v u ∧ S d v) its ds → ∃ zs, Vals zs its ∧ Paired S ds zs
  | _, _, .nil => ⟨[], .nil, .nil⟩
  | _, _, .cons ⟨v, r, h⟩ t => by
    obtain ⟨zs, h1, h2⟩ := each_paired t
    exact ⟨v :: zs, .cons r h1, .cons h h2⟩
theorem reps_paired {G : Gx} {F : Addr → Prop} {B : Hp} : ∀ {ds : List D} {ys : List V}, Reps G F B ds ys → Paired (Rep G F B) ds ys
  | [], _, h => by
    rw [show _ = [] from h]
    exact .nil
  | d :: ds, _, ⟨v, r, e, h1, h2⟩ => by
    subst e
    exact .cons h1 (reps_paired h2)
theorem paired_reps {G : Gx} {F : Addr → Prop} {B : Hp} : ∀ {ds : List D} {ys : List V}, Paired (Rep G F B) ds ys → Reps G F B ds ys
  | _, _, .nil => rfl
  | _, _, .cons h t => ⟨_, _, rfl, h, paired_reps t⟩
theorem cr_sortedD {X : Cx} (hu : X.A.units + 64 < cLine) : CallR X (.builtin "sorted") (rSortedD X.K) := by
  intro pins s σ H vs us Q I r h
  obtain ⟨a, ys, ds, S, rfl, hs, hp, hd, ok, q⟩ := h
  obtain ⟨its, rv, hl, hz⟩ := I.list hs
  rw [Vals.ref1 r]
  have e := paired_each hp rv
  have hlen := e.length
  refine PySem.W.sorted_data (β := D) (enc := D.py) hl.isList e ((PySem.W.each_mem e).mono fun u d ⟨⟨v, h1, h2⟩, hm⟩ => Dp.reads I d.py v u (hd d v h2 hm) h1) ok.al ok.so (by have := ok.ln; rw [sizeLine_eq]; omega) (fun d hd => by have := ok.dp d hd; omega) fun out ho he => ?_
  obtain ⟨zs, h1, h2⟩ := each_paired he
  obtain ⟨ep, he'⟩ := PyProof.Rows.sortedAll_at s.heap its out.toArray
  have hzl : zs.length ≤ sizeLine := by
    have := h1.length
    have := ok.ln
    rw [sizeLine_eq]
    omega
  exact ⟨.ref _, upd H (s.heap.objs.size + 1) (.lst zs), I.laid (t' := s.toks) (fun _ _ => PyProof.Rows.sortedAll_old) (Nat.le_succ _) ⟨hzl, out, ep, h1, he'⟩, rfl, q _ zs (I.hok.fresh (Nat.le_succ _)) h2⟩
section
variable {G : Gx}
theorem reps1 {F : Addr → Prop} {B : Hp} {d : D} {xs : List V} (h : Reps G F B [d] xs) : ∃ v, xs = [v] ∧ Rep G F B d v := by
  obtain ⟨v, r, e1, e2, e3⟩ := h
  rw [show r = [] from e3] at e1
  exact ⟨v, e1, e2⟩
theorem reps2 {F : Addr → Prop} {B : Hp} {d e : D} {xs : List V} (h : Reps G F B [d, e] xs) : ∃ v w, xs = [v, w] ∧ Rep G F B d v ∧ Rep G F B e w := by
  obtain ⟨v, r, e1, e2, e3⟩ := h
  obtain ⟨w, f1, f2⟩ := reps1 e3
  rw [f1] at e1
  exact ⟨v, w, e1, e2, f2⟩
theorem reps_ints {F : Addr → Prop} {B : Hp} : ∀ {ns : List Int} {xs : List V}, Reps G F B (ns.map D.int) xs → xs = ns.map V.int
  | [], _, h => h
  | n :: ns, _, ⟨v, r, e1, e2, e3⟩ => by
    rw [e1, show v = .int n from e2, reps_ints e3]
    rfl
theorem ints_reps {F : Addr → Prop} {B : Hp} : ∀ (ns : List Int), Reps G F B (ns.map D.int) (ns.map V.int)
  | [] => rfl
  | n :: ns => ⟨_, _, rfl, rfl, ints_reps ns⟩
theorem reps_bls {F : Addr → Prop} {B : Hp} : ∀ {ns : List Bool} {xs : List V}, Reps G F B (ns.map D.bl) xs → xs = ns.map V.bl
  | [], _, h => h
  | n :: ns, _, ⟨v, r, e1, e2, e3⟩ => by
    rw [e1, show v = .bl n from e2, reps_bls e3]
    rfl
theorem rc_len : RefC G (rLen2 G.K) lenD := fun F B H xs ds ex ff r DQ q Q k => by
  unfold lenD at q
  split at q
  · obtain ⟨v, rfl, p, ys, e1, e2, e3⟩ := reps1 r
    subst e1
    exact ⟨p, ys, rfl, .inl (.inl (.inl (ex _ _ e2))), k _ _ B H (.refl ex) (by rw [e3.length]; rfl) q⟩
  · obtain ⟨v, rfl, p, ys, e1, _, e2, e3⟩ := reps1 r
    subst e1
    exact ⟨p, ys, rfl, .inl (.inl (.inl (ex _ _ e2))), k _ _ B H (.refl ex) (by rw [e3.length]; rfl) q⟩
  · obtain ⟨v, rfl, p, ys, e1, e2, e3⟩ := reps1 r
    subst e1
    exact ⟨p, ys, rfl, .inr (.inl (.inl (ex _ _ e2))), k _ _ B H (.refl ex) (by rw [e3.length]; rfl) q⟩
  · exact q.elim
theorem rc_sum : RefC G (rSum G.K) sumD := fun F B H xs ds ex ff r DQ q Q k => by
  unfold sumD at q
  split at q
  · obtain ⟨ns, e, q⟩ := q
    subst e
    obtain ⟨v, rfl, p, ys, e1, e2, e3⟩ := reps1 r
    subst e1
    rw [reps_ints e3] at e2
    exact ⟨p, ns, rfl, .inl (.inl (ex _ _ e2)), k (.int _) _ B H (.refl ex) rfl q⟩
  · exact q.elim
theorem rc_any : RefC G (rAny G.K) anyD := fun F B H xs ds ex ff r DQ q Q k => by
  unfold anyD at q
  split at q
  · obtain ⟨ns, e, q⟩ := q
    subst e
    obtain ⟨v, rfl, p, ys, e1, e2, e3⟩ := reps1 r
    subst e1
    rw [reps_bls e3] at e2
    exact ⟨p, ns, rfl, .inl (.inl (ex _ _ e2)), k (.bl _) _ B H (.refl ex) rfl q⟩
  · exact q.elim
theorem rc_all : RefC G (rAll G.K) allD := fun F B H xs ds ex ff r DQ q Q k => by
  unfold allD at q
  split at q
  · obtain ⟨ns, e, q⟩ := q
    subst e
    obtain ⟨v, rfl, p, ys, e1, e2, e3⟩ := reps1 r
    subst e1
    rw [reps_bls e3] at e2
    exact ⟨p, ns, rfl, .inl (.inl (ex _ _ e2)), k (.bl _) _ B H (.refl ex) rfl q⟩
  · exact q.elim
theorem rc_max2 : RefC G rMax2 max2D := fun F B H xs ds ex ff r DQ q Q k => by
  unfold max2D at q
  split at q
  · obtain ⟨v, w, rfl, e1, e2⟩ := reps2 r
    rename_i i j
    cases (show v = .int i from e1)
    cases (show w = .int j from e2)
    exact ⟨i, j, rfl, k (.int _) _ B H (.refl ex) rfl q⟩
  · exact q.elim
theorem rc_min2 : RefC G rMin2 min2D := fun F B H xs ds ex ff r DQ q Q k => by
  unfold min2D at q
  split at q
  · obtain ⟨v, w, rfl, e1, e2⟩ := reps2 r
    rename_i i j
    cases (show v = .int i from e1)
    cases (show w = .int j from e2)
    exact ⟨i, j, rfl, k (.int _) _ B H (.refl ex) rfl q⟩
  · exact q.elim
theorem rc_abs : RefC G rAbs1 absD := fun F B H xs ds ex ff r DQ q Q k => by
  unfold absD at q
  split at q
  · obtain ⟨v, rfl, e1⟩ := reps1 r
    rename_i i
    cases (show v = .int i from e1)
    exact ⟨i, rfl, k (.int _) _ B H (.refl ex) rfl q⟩
  · exact q.elim
theorem rc_int : RefC G rInt1 intD := fun F B H xs ds ex ff r DQ q Q k => by
  unfold intD at q
  split at q
  · obtain ⟨v, rfl, e1⟩ := reps1 r
    rename_i i
    cases (show v = .int i from e1)
    exact .inl ⟨i, rfl, k (.int _) _ B H (.refl ex) rfl q⟩
  · exact q.elim
theorem rc_div : RefC G rDiv2 divD := fun F B H xs ds ex ff r DQ q Q k => by
  unfold divD at q
  split at q
  · obtain ⟨v, w, rfl, e1, e2⟩ := reps2 r
    rename_i i j
    cases (show v = .int i from e1)
    cases (show w = .int j from e2)
    refine ⟨i, j, rfl, q.1, fun p hp => ?_⟩
    have n := Nw.put (o := .tup [.int (i / j), .int (i % j)]) ex hp
    exact k (.tup [.int (i / j), .int (i % j)]) _ _ _ n ⟨p, _, rfl, upd_same, _, _, rfl, rfl, _, _, rfl, rfl, rfl⟩ q.2
  · exact q.elim
theorem rc_list : RefC G (rListOf G.K) listD := fun F B H xs ds ex ff r DQ q Q k => by
  unfold listD at q
  split at q
  · obtain ⟨v, rfl, p, ys, e1, e2, e3⟩ := reps1 r
    subst e1
    refine ⟨p, ys, rfl, .inl (.inl (.inl (ex _ _ e2))), fun l hl => ?_⟩
    have n := Nw.put (o := .lst ys) ex hl
    exact k (.lst _) _ _ _ n ⟨l, ys, rfl, upd_same, Reps.mono n.eb _ _ e3⟩ q
  · obtain ⟨v, rfl, p, ys, e1, _, e2, e3⟩ := reps1 r
    subst e1
    refine ⟨p, ys, rfl, .inl (.inl (.inl (ex _ _ e2))), fun l hl => ?_⟩
    have n := Nw.put (o := .lst ys) ex hl
    exact k (.lst _) _ _ _ n ⟨l, ys, rfl, upd_same, Reps.mono n.eb _ _ e3⟩ q
  · exact q.elim
theorem flats_mem {ds : List D} (h : D.flats ds = true) {d : D} (hd : d ∈ ds) : d.flat = true := by
  rw [flats_all] at h
  exact List.all_eq_true.mp h d hd
theorem rc_sorted : RefC G (rSortedD G.K) sortedD := fun F B H xs ds ex ff r DQ q Q k => by
  unfold sortedD at q
  split at q
  · rename_i es
    obtain ⟨v, rfl, p, ys, e1, e2, e3⟩ := reps1 r
    subst e1
    refine ⟨p, ys, es, Rep G F B, rfl, .inl (.inl (ex _ _ e2)), reps_paired e3, fun d v h hm => Rep.dp ex d v (flats_mem q.1.fl hm) h, q.1, fun l zs hl hz => ?_⟩
    have n := Nw.put (o := .lst zs) ex hl
    exact k (.lst _) _ _ _ n ⟨l, zs, rfl, upd_same, Reps.mono n.eb _ _ (paired_reps hz)⟩ q.2
  · exact q.elim
theorem rc_sortedN : RefC G (rSortedD G.K) sortedDN := fun F B H xs ds ex ff r DQ q Q k => by
  unfold sortedDN at q
  split at q
  · rename_i es
    obtain ⟨v, rfl, p, ys, e1, e2, e3⟩ := reps1 r
    subst e1
    refine ⟨p, ys, es, Rep G F B, rfl, .inl (.inl (ex _ _ e2)), reps_paired e3, fun d v h hm => Rep.dp ex d v (flats_mem q.1.fl hm) h, q.1, fun l zs hl hz => ?_⟩
    have n := Nw.put (o := .lst zs) ex hl
    exact k (.new _) _ _ _ n ⟨l, zs, rfl, ff l hl, upd_same, Reps.mono n.eb _ _ (paired_reps hz)⟩ q.2
  · exact q.elim
/-- list(x), a list of its own -/
def dOwnC (a : DTE) : DTV := fun δ Q => a δ fun x δ1 => match x with
  | .lst ds => Q (.own ds) δ1
  | _ => False
theorem ref_ownC {ta : TE} {a : DTE} (ha : RefE G ta a) : RefV G (tCB (rListOf G.K) (tCons ta tNil)) (dOwnC a) := fun F O δ σ B H m DQ q Q k =>
  ha F O δ σ B H m _ q _ fun d v δ1 B1 H1 m1 g1 r1 q1 => by
    cases d with
    | lst ds =>
      obtain ⟨p, ys, e1, e2, e3⟩ := r1
      subst e1
      refine ⟨p, ys, rfl, .inl (.inl (.inl (m1.ex _ _ e2))), fun l hl => ?_⟩
      have n := Nw.side (o := .lst ys) m1.ex hl
      exact k (.own ds) (.ref l) δ1 _ _ (m1.nw n) (g1.trans n.go) ⟨l, ys, rfl, m1.ex.none hl, m1.fo l hl, m1.ff l hl, upd_same, e3⟩ (fun _ => ⟨l, rfl, g1.al l hl, fun j u hu u1 => m1.own_ne hl hu u1⟩) q1
    | _ => exact q1.elim
/-- list(range(n)) -/
def rgD (n : Nat) : List D := (List.range n).map fun i => D.int (i : Nat)
def dListRg (a : DTE) : DTE := fun δ Q => a δ fun x δ1 => match x with
  | .int n => (0 ≤ n ∧ n < 10000) ∧ Q (.lst (rgD n.toNat)) δ1
  | _ => False
theorem ref_listRg {ta : TE} {a : DTE} (ha : RefE G ta a) : RefE G (tLstRg (tRg1 ta)) (dListRg a) := fun F O δ σ B H m DQ q Q k =>
  ha F O δ σ B H m _ q _ fun d v δ1 B1 H1 m1 g1 r1 q1 => by
    cases d with
    | int n =>
      obtain ⟨⟨n0, n1⟩, q2⟩ := q1
      refine ⟨n, r1, RgOk.of_le (by omega) (by omega) (by omega) (by omega), fun l hl => ?_⟩
      have e : rgV 0 n = (List.range n.toNat).map fun i => V.int (i : Nat) := by
        unfold rgV
        rw [Int.sub_zero]
        exact List.map_congr_left fun i _ => by rw [Int.zero_add]
      have rr : ∀ (l : List Nat) B, Reps G F B (l.map fun i => D.int (i : Nat)) (l.map fun i => V.int (i : Nat)) := fun l B => by
        induction l with
        | nil => rfl
        | cons x r ih => exact ⟨_, _, rfl, rfl, ih⟩
      have nw := Nw.put (o := .lst (rgV 0 n)) m1.ex hl
      exact k (.lst _) _ δ1 _ _ (m1.nw nw) (g1.trans nw.go) ⟨l, _, rfl, upd_same, by rw [e]; exact rr _ _⟩ q2
    | _ => exact q1.elim
end
end K26
set_option Elab.async false
set_option linter.all false
set_option maxRecDepth 100000
set_option maxHeartbeats 1000000
namespace K26
open PySem PySem.Spec PyProof.Rows L2

/-! ## fields, walks, chains, calls -/
/-- x.f, x a name; n: the field's place -/
def dFld (i n : Nat) : DTE := fun δ Q => match δ[i]? with
  | some (.dat (.obj _ ds)) => ∃ d, ds[n]? = some d ∧ Q d δ
  | some (.ins _ _ ds) => ∃ d, ds[n]? = some d ∧ Q d δ
  | _ => False
def dFldK (k : Nat) (δ : DS) (i : Nat) : Prop := match δ[i]? with
  | some (.dat (.obj k' _)) => k' = k
  | some (.ins _ k' _) => k' = k
  | _ => False
/-- self.f = .. -/
def dFldSet (i : Nat) (a : DTE) : DTS := fun E δ => a δ fun d δ1 => match δ1[i]? with
  | some (.ins p k ds) => E.nx (δ1.set i (.ins p k (ds ++ [d])))
  | _ => False
structure ClsOk (G : Gx) (k : Nat) : Prop where
  cl : Cls G.K (G.cs k)
  na : ∀ f ∈ fln k, NoAttr G.K (G.cs k) f
theorem fln_nd : ∀ k, (fln k).Nodup
  | 0 => by decide +kernel
  | _ + 1 => by
    show (["own_country", "own_books"] : List Str).Nodup
    decide +kernel
theorem lookup_at : ∀ {fs : List (Str × V)} {n : Nat} {f : Str} {v : V}, (fs.map (·.1)).Nodup → (fs.map (·.1))[n]? = some f → (fs.map (·.2))[n]? = some v → fs.lookup f = some v
  | [], n, _, _, _, h, _ => by simp at h
  | (g, x) :: r, 0, f, v, _, h, h2 => by
    have e1 : g = f := Option.some.inj h
    have e2 : x = v := Option.some.inj h2
    subst e1 e2
    simp [List.lookup]
  | (g, x) :: r, n + 1, f, v, nd, h, h2 => by
    have nd2 : g ∉ r.map (·.1) ∧ (r.map (·.1)).Nodup := List.nodup_cons.mp nd
    have hf : f ∈ r.map (·.1) := List.mem_of_getElem? (i := n) h
    have ne : (f == g) = false := beq_eq_false_iff_ne.mpr fun z => nd2.1 (z ▸ hf)
    show (match f == g with | true => some x | false => r.lookup f) = some v
    rw [ne]
    exact lookup_at nd2.2 (n := n) h h2
theorem putF_new {f : Str} {v : V} : ∀ {fs : List (Str × V)}, f ∉ fs.map (·.1) → putF f v fs = fs ++ [(f, v)]
  | [], _ => rfl
  | (g, x) :: r, h => by
    have ne : ¬ g = f := fun z => h (by rw [← z]; exact List.mem_cons_self)
    show (if g = f then (g, v) :: r else (g, x) :: putF f v r) = _
    rw [if_neg ne, putF_new fun z => h (List.mem_cons_of_mem _ z)]
    rfl
section
variable {G : Gx} {ta tb te : TE} {a b : DTE}
theorem ref_fld {i n k : Nat} {f : Str} (C : ClsOk G k) (hf : (fln k)[n]? = some f) : RefE G (tFld G.K (tVar i) f) (fun δ Q => dFldK k δ i ∧ dFld i n δ Q) := fun F O δ σ B H m DQ q Q kk => by
  have hmem : f ∈ fln k := List.mem_of_getElem? hf
  obtain ⟨q0, q⟩ := q
  unfold dFldK at q0
  unfold dFld at q
  cases e : δ[i]? with
  | none =>
    rw [e] at q
    exact q.elim
  | some s =>
    rw [e] at q q0
    cases s with
    | dat d =>
      cases d with
      | obj k' ds =>
        have ek : k' = k := q0
        subst ek
        obtain ⟨d, hd, q⟩ := q
        obtain ⟨v, hv, x, rfl, p, dx, fs, e1, e2, e3, e4⟩ := m.ok i _ e
        subst e1
        obtain ⟨u, hu, ru⟩ := e4.get hd
        exact ⟨.ref p, hv, p, _, dx, fs, u, rfl, m.ex _ _ e2, C.cl, C.na f hmem, lookup_at (n := n) (by rw [e3]; exact fln_nd _) (by rw [e3]; exact hf) hu, kk d u δ B H m (.refl O B H) ru q⟩
      | _ => exact q.elim
    | ins p k' ds =>
      have ek : k' = k := q0
      subst ek
      obtain ⟨d, hd, q⟩ := q
      obtain ⟨v, hv, dx, fs, e1, e2, e3, e4, e5, e6, e7⟩ := m.ok i _ e
      subst e1
      obtain ⟨u, hu, ru⟩ := e7.get hd
      have hlt : n < ds.length := (List.getElem?_eq_some_iff.mp hd).1
      exact ⟨.ref p, hv, p, _, dx, fs, u, rfl, e5, C.cl, C.na f hmem, lookup_at (n := n) (by rw [e6]; exact (fln_nd _).sublist (List.take_sublist _ _)) (by rw [e6, List.getElem?_take_of_lt hlt]; exact hf) hu, kk d u δ B H m (.refl O B H) ru q⟩
    | _ => exact q.elim
theorem rs_fldSet {i n k : Nat} {f : Str} (C : ClsOk G k) (hf : (fln k)[n]? = some f) (ha : RefE G ta a) : RefS G (sFld G.K (tVar i) ta f) (fun E δ => a δ fun d δ1 => match δ1[i]? with
    | some (.ins p k' ds) => (k' = k ∧ ds.length = n) ∧ E.nx (δ1.set i (.ins p k' (ds ++ [d])))
    | _ => False) := fun F O δ σ B H m E q N e =>
  ha F O δ σ B H m _ q _ fun x v δ1 B1 H1 m1 g1 r1 q1 => by
    have hmem : f ∈ fln k := List.mem_of_getElem? hf
    cases e1 : δ1[i]? with
    | none =>
      rw [e1] at q1
      exact q1.elim
    | some s =>
      rw [e1] at q1
      cases s with
      | ins p k' ds =>
        obtain ⟨⟨ek, el⟩, q2⟩ := q1
        subst ek el
        obtain ⟨w, hw, dx, fs, h1, h2, h3, h4, h5, h6, h7⟩ := m1.ok i _ e1
        subst h1
        have hnd : f ∉ fs.map (·.1) := fun z => by
          rw [h6] at z
          obtain ⟨j, hj, ej⟩ := List.getElem_of_mem z
          have hjl : j < ds.length := by
            rw [List.length_take] at hj
            omega
          rw [List.getElem_take] at ej
          obtain ⟨hl, e2⟩ := List.getElem?_eq_some_iff.mp hf
          have q := (List.getElem_inj (fln_nd k')).mp (ej.trans e2.symm)
          omega
        have hl : fs.length < 1000 := by
          have q := congrArg List.length h6
          rw [List.length_map, List.length_take] at q
          have : (fln k').length ≤ 3 := by
            cases k' with
            | zero => decide
            | succ k' =>
              show (["own_country", "own_books"] : List Str).length ≤ 3
              decide
          omega
        refine ⟨.ref p, hw, p, _, dx, fs, rfl, h5, C.cl, C.na f hmem, hl, ?_⟩
        rw [putF_new hnd]
        obtain ⟨m2, g2⟩ := m1.own_upd (t := .ins p k' (ds ++ [x])) (o := .ins (G.cs k') dx (fs ++ [(f, v)])) e1 rfl hw ⟨dx, _, rfl, h2, h3, h4, upd_same, by
          rw [List.map_append, h6, List.length_append, List.length_singleton, List.take_add_one, hf]
          rfl, by
          rw [List.map_append]
          exact h7.app (.one r1)⟩ rfl
        exact e.nx _ _ _ _ m2 (g1.trans g2) q2
      | _ => exact q1.elim
end

/-! ### what is walked -/
def dItL (a : DTE) : DTI := fun δ Q => a δ fun x δ1 => match x with
  | .lst ds => Q ds δ1
  | .new ds => Q ds δ1
  | _ => False
def dItT (a : DTE) : DTI := fun δ Q => a δ fun x δ1 => match x with
  | .tup ds => Q ds δ1
  | _ => False
def rg2D (lo : Int) (n : Nat) : List D := (List.range n).map fun i => D.int (lo + (i : Nat))
def dRg1 (a : DTA) : DTI := fun δ Q => a δ fun xs δ1 => match xs with
  | [.int j] => (j < 1000000 ∧ -1000000 < j) ∧ Q (rg2D 0 j.toNat) δ1
  | _ => False
def dRg2 (a : DTA) : DTI := fun δ Q => a δ fun xs δ1 => match xs with
  | [.int i, .int j] => ((i < 1000000 ∧ -1000000 < i) ∧ j < 1000000 ∧ -1000000 < j) ∧ Q (rg2D i (j - i).toNat) δ1
  | _ => False
def enD (ds : List D) : List D := ds.zipIdx.map fun p => .tup [.int (p.2 : Nat), p.1]
def dEnum (a : DTA) : DTI := fun δ Q => a δ fun xs δ1 => match xs with
  | [.lst ds] => Q (enD ds) δ1
  | _ => False
def zipD (ds es : List D) : List D := (ds.zip es).map fun p => .tup [p.1, p.2]
def dZip (a : DTA) : DTI := fun δ Q => a δ fun xs δ1 => match xs with
  | [.lst ds, .lst es] => Q (zipD ds es) δ1
  | _ => False
section
variable {G : Gx} {ta : TE} {a : DTE} {n : Nat} {tl : TA} {l : DTA}
theorem ri_list (ha : RefE G ta a) : RefI G (iList G.K ta) (dItL a) := fun F O δ σ B H m DQ q R k =>
  ha F O δ σ B H m _ q _ fun x v δ1 B1 H1 m1 g1 r1 q1 => by
    have key : ∀ (ds : List D) (p : Addr) (xs : List V), v = .ref p → B1 p = some (.lst xs) → Reps G F B1 ds xs → DQ ds δ1 → ∃ a, v = .ref a ∧ (∃ xs, SqL G.K H1 a xs) ∧ R (Itl G.K a) H1 := fun ds p xs e1 e2 e3 q => by
      refine ⟨p, e1, ⟨xs, .inl (.inl (m1.ex _ _ e2))⟩, k _ _ _ _ ds δ1 B1 H1 (walk_list (xs := xs)) e3.length.symm m1 g1 (fun B2 H2 eb ex => .inl (.inl (ex _ _ (eb _ _ e2)))) (fun i y B2 H2 H3 hi eb ex ff hy => ?_) q⟩
      obtain ⟨h1, h2⟩ := hy
      subst h1
      have hi2 : i < ds.length := by rw [← e3.length]; exact hi
      obtain ⟨u, hu, ru⟩ := e3.get (List.getElem?_eq_getElem hi2)
      rw [h2] at hu
      cases hu
      exact ⟨B2, ds[i], List.getElem?_eq_getElem hi2, .refl ex, Rep.mono eb _ _ ru⟩
    cases x with
    | lst ds =>
      obtain ⟨p, xs, e1, e2, e3⟩ := r1
      exact key ds p xs e1 e2 e3 q1
    | new ds =>
      obtain ⟨p, xs, e1, _, e2, e3⟩ := r1
      exact key ds p xs e1 e2 e3 q1
    | _ => exact q1.elim
theorem ri_tup (ha : RefE G ta a) : RefI G (iTup G.K ta) (dItT a) := fun F O δ σ B H m DQ q R k =>
  ha F O δ σ B H m _ q _ fun x v δ1 B1 H1 m1 g1 r1 q1 => by
    cases x with
    | tup ds =>
      obtain ⟨p, xs, e1, e2, e3⟩ := r1
      refine ⟨p, e1, ⟨xs, .inl (.inl (m1.ex _ _ e2))⟩, k _ _ _ _ ds δ1 B1 H1 (walk_tup (xs := xs)) e3.length.symm m1 g1 (fun B2 H2 eb ex => .inl (.inl (ex _ _ (eb _ _ e2)))) (fun i y B2 H2 H3 hi eb ex ff hy => ?_) q1⟩
      obtain ⟨h1, h2⟩ := hy
      subst h1
      have hi2 : i < ds.length := by rw [← e3.length]; exact hi
      obtain ⟨u, hu, ru⟩ := e3.get (List.getElem?_eq_getElem hi2)
      rw [h2] at hu
      cases hu
      exact ⟨B2, ds[i], List.getElem?_eq_getElem hi2, .refl ex, Rep.mono eb _ _ ru⟩
    | _ => exact q1.elim
theorem rg2_at {lo : Int} {n i : Nat} (h : i < n) : (rg2D lo n)[i]? = some (D.int (lo + (i : Nat))) := by
  unfold rg2D
  rw [List.getElem?_map, List.getElem?_range h]
  rfl
theorem rg2_len {lo : Int} {n : Nat} : (rg2D lo n).length = n := by
  unfold rg2D
  rw [List.length_map, List.length_range]
theorem ri_rg1 (ha : RefA G n tl l) : RefI G (iRng1 tl) (dRg1 l) := fun F O δ σ B H m DQ q R k =>
  ha F O δ σ B H m _ q _ fun ds vs δ1 B1 H1 m1 g1 r1 _ q1 => by
    split at q1
    · rename_i j
      obtain ⟨v, rfl, e⟩ := reps1 r1
      refine ⟨j, congrArg (fun z => [z]) (show v = .int j from e), by omega, by omega, k _ _ _ _ _ δ1 B1 H1 walk_range rg2_len m1 g1 (fun _ _ _ _ => trivial) (fun i y B2 H2 H3 hi eb ex ff hy => ?_) q1.2⟩
      obtain ⟨h1, h2⟩ := hy
      subst h1 h2
      exact ⟨B2, _, rg2_at hi, .refl ex, rfl⟩
    · exact q1.elim
theorem ri_rg2 (ha : RefA G n tl l) : RefI G (iRng2 tl) (dRg2 l) := fun F O δ σ B H m DQ q R k =>
  ha F O δ σ B H m _ q _ fun ds vs δ1 B1 H1 m1 g1 r1 _ q1 => by
    split at q1
    · rename_i i j
      obtain ⟨v, w, rfl, e, e'⟩ := reps2 r1
      cases (show v = .int i from e)
      cases (show w = .int j from e')
      refine ⟨i, j, rfl, by omega, k _ _ _ _ _ δ1 B1 H1 walk_range rg2_len m1 g1 (fun _ _ _ _ => trivial) (fun i y B2 H2 H3 hi eb ex ff hy => ?_) q1.2⟩
      obtain ⟨h1, h2⟩ := hy
      subst h1 h2
      exact ⟨B2, _, rg2_at hi, .refl ex, rfl⟩
    · exact q1.elim
theorem pair_in {F : Addr → Prop} {B H H' : Hp} {T : Addr} {x y : V} {d e : D} (ex : Ex B H) (n : H T = none) (e1 : H' = upd H T (.tup [x, y])) (r1 : Rep G F B d x) (r2 : Rep G F B e y) :
    Nw B H (upd B T (.tup [x, y])) H' ∧ Rep G F (upd B T (.tup [x, y])) (.tup [d, e]) (.ref T) := by
  subst e1
  have nw := Nw.put (o := .tup [x, y]) ex n
  exact ⟨nw, T, [x, y], rfl, upd_same, x, [y], rfl, Rep.mono nw.eb _ _ r1, y, [], rfl, Rep.mono nw.eb _ _ r2, rfl⟩
theorem ri_enum (ha : RefA G n tl l) : RefI G (iEnum G.K tl) (dEnum l) := fun F O δ σ B H m DQ q R k =>
  ha F O δ σ B H m _ q _ fun ds vs δ1 B1 H1 m1 g1 r1 _ q1 => by
    split at q1
    · rename_i es
      obtain ⟨v, rfl, p, xs, e1, e2, e3⟩ := reps1 r1
      subst e1
      have hl : (enD es).length = xs.length := by
        unfold enD
        rw [List.length_map, List.length_zipIdx, e3.length]
      refine ⟨p, xs, rfl, .inl (.inl (m1.ex _ _ e2)), k _ _ _ _ _ δ1 B1 H1 (walk_enum (xs := xs)) hl m1 g1 (fun B2 H2 eb ex => .inl (.inl (ex _ _ (eb _ _ e2)))) (fun i y B2 H2 H3 hi eb ex ff hy => ?_) q1⟩
      obtain ⟨T, x, z, rfl, h1, h2, h3, h4⟩ := hy
      have hi2 : i < es.length := by rw [← e3.length]; exact hi
      obtain ⟨u, hu, ru⟩ := e3.get (List.getElem?_eq_getElem hi2)
      have h4' : some z = some u := h4.symm.trans hu
      cases h4'
      cases h3
      obtain ⟨n1, n2⟩ := pair_in (G := G) (F := F) (d := .int (i : Nat)) ex h1 h2 (show Rep G F B2 (.int (i : Nat)) (.int (i : Nat)) from rfl) (Rep.mono eb _ _ ru)
      refine ⟨_, _, ?_, n1, n2⟩
      unfold enD
      rw [List.getElem?_map, List.getElem?_zipIdx, List.getElem?_eq_getElem hi2]
      simp
    · exact q1.elim
theorem ri_zip (ha : RefA G n tl l) : RefI G (iZip G.K tl) (dZip l) := fun F O δ σ B H m DQ q R k =>
  ha F O δ σ B H m _ q _ fun ds vs δ1 B1 H1 m1 g1 r1 _ q1 => by
    split at q1
    · rename_i es fs
      obtain ⟨v, w, rfl, ⟨p, xs, e1, e2, e3⟩, p', ys, f1, f2, f3⟩ := reps2 r1
      subst e1 f1
      have hl : (zipD es fs).length = min xs.length ys.length := by
        unfold zipD
        rw [List.length_map, List.length_zip, e3.length, f3.length]
      refine ⟨p, p', xs, ys, rfl, .inl (.inl (m1.ex _ _ e2)), .inl (.inl (m1.ex _ _ f2)), k _ _ _ _ _ δ1 B1 H1 (walk_zip (xs := xs) (ys := ys) rfl) hl m1 g1 (fun B2 H2 eb ex => ⟨.inl (.inl (ex _ _ (eb _ _ e2))), .inl (.inl (ex _ _ (eb _ _ f2)))⟩) (fun i y B2 H2 H3 hi eb ex ff hy => ?_) q1⟩
      obtain ⟨T, x, z, rfl, h1, h2, h3, h4⟩ := hy
      have hi2 : i < es.length := by rw [← e3.length]; omega
      have hi3 : i < fs.length := by rw [← f3.length]; omega
      obtain ⟨u, hu, ru⟩ := e3.get (List.getElem?_eq_getElem hi2)
      obtain ⟨u', hu', ru'⟩ := f3.get (List.getElem?_eq_getElem hi3)
      have a1 : some x = some u := h3.symm.trans hu
      have a2 : some z = some u' := h4.symm.trans hu'
      cases a1
      cases a2
      obtain ⟨n1, n2⟩ := pair_in (G := G) (F := F) ex h1 h2 (Rep.mono eb _ _ ru) (Rep.mono eb _ _ ru')
      refine ⟨_, _, ?_, n1, n2⟩
      unfold zipD
      rw [List.getElem?_map, (List.getElem?_zip_eq_some (z := (es[i], fs[i]))).mpr ⟨List.getElem?_eq_getElem hi2, List.getElem?_eq_getElem hi3⟩]
      rfl
    · exact q1.elim
end

/-! ### a < b < c -/
def dChain (r r' : DR2) (a b c : DTE) : DTE := fun δ Q => a δ fun x δ1 => b δ1 fun y δ2 => r x y fun z => match z with
  | .bl true => c δ2 fun w δ3 => r' y w fun z => Q z δ3
  | .bl false => Q (.bl false) δ2
  | _ => False
section
variable {G : Gx} {ta tb tc : TE} {a b c : DTE}
theorem ref_chain {r r' : R2} {dr dr' : DR2} (ha : RefE G ta a) (hb : RefE G tb b) (hc : RefE G tc c) (hr : RefR2 G r dr) (hr' : RefR2 G r' dr') : RefE G (tChain r r' ta tb tc) (dChain dr dr' a b c) := fun F O δ σ B H m DQ q Q k =>
  ha F O δ σ B H m _ q _ fun x v δ1 B1 H1 m1 g1 r1 q1 => hb F O δ1 σ B1 H1 m1 _ q1 _ fun y w δ2 B2 H2 m2 g2 r2 q2 =>
    hr F B2 H2 v w x y m2.ex m2.ff (Rep.mono g2.eb _ _ r1) r2 _ q2 _ fun z u B3 H3 n3 r3 q3 => by
      have m3 := m2.nw n3
      have g3 : Go O B H B3 H3 := (g1.trans g2).trans n3.go
      cases z with
      | bl k2 =>
        cases k2 with
        | true => exact ⟨true, r3, iteT (hc F O δ2 σ B3 H3 m3 _ q3 _ fun e s δ4 B4 H4 m4 g4 r4 q4 =>
            hr' F B4 H4 w s y e m4.ex m4.ff (Rep.mono (n3.eb.trans g4.eb) _ _ r2) r4 _ q4 Q fun z x B5 H5 n5 r5 q5 => k z x δ4 B5 H5 (m4.nw n5) ((g3.trans g4).trans n5.go) r5 q5)⟩
        | false => exact ⟨false, r3, iteF (k (.bl false) _ δ2 B3 H3 m3 g3 rfl q3)⟩
      | _ => exact q3.elim
end

/-! ### is it such a one -/
def dIsTy (T : String) (a : DTE) : DTE := fun δ Q => a δ fun x δ1 => match x with
  | .int _ => Q (.bl (T == "int")) δ1
  | .tup _ => Q (.bl (T == "tuple")) δ1
  | _ => False
/-- isinstance(x, (list, tuple)) -/
def dIsLT (a : DTE) : DTE := fun δ Q => a δ fun x δ1 => match x with
  | .lst _ => Q (.bl true) δ1
  | .tup _ => Q (.bl true) δ1
  | _ => False
def dIsCl (k : Nat) (a : DTE) : DTE := fun δ Q => a δ fun x δ1 => match x with
  | .obj k' _ => k' = k ∧ Q (.bl true) δ1
  | _ => False
section
variable {G : Gx} {ta : TE} {a : DTE}
theorem ref_isTy {T : String} (hT : kitB "int" T = some (T == "int")) (hT2 : kitB "tuple" T = some (T == "tuple")) (ha : RefE G ta a) : RefE G (tCB (rIsi G.K) (tCons ta (tCons (tC (.ty T)) tNil))) (dIsTy T a) := fun F O δ σ B H m DQ q Q k =>
  ha F O δ σ B H m _ q _ fun x v δ1 B1 H1 m1 g1 r1 q1 => by
    cases x with
    | int i =>
      cases (show v = .int i from r1)
      exact ⟨_, .ty T, .type "int", .type T, (T == "int"), rfl, .ty T, .base (.int i), kit_ty hT, k (.bl _) _ δ1 B1 H1 m1 g1 rfl q1⟩
    | tup ds =>
      obtain ⟨p, xs, e1, e2, _⟩ := r1
      subst e1
      exact ⟨_, .ty T, .type "tuple", .type T, (T == "tuple"), rfl, .ty T, .base (.tup (m1.ex _ _ e2)), kit_ty hT2, k (.bl _) _ δ1 B1 H1 m1 g1 rfl q1⟩
    | _ => exact q1.elim
theorem ref_isLT (ha : RefE G ta a) : RefE G (tCB (rIsiT G.K) (tCons ta (tCons (tTup (tCons (tC (.ty "list")) (tCons (tC (.ty "tuple")) tNil))) tNil))) (dIsLT a) := fun F O δ σ B H m DQ q Q k =>
  ha F O δ σ B H m _ q _ fun x v δ1 B1 H1 m1 g1 r1 q1 => by
    refine ⟨by decide, fun p hp => ?_⟩
    have nw := Nw.put (o := .tup [V.ty "list", V.ty "tuple"]) m1.ex hp
    have m2 := m1.nw nw
    have fin : ∀ T, TyX G.K (upd H1 p (.tup [V.ty "list", V.ty "tuple"])) v (.type T) → PySem.W.kitAny G.K (.type T) [.type "list", .type "tuple"] = some true → DQ (.bl true) δ1 → rIsiT G.K [v, .ref p] (upd H1 p (.tup [V.ty "list", V.ty "tuple"])) Q := fun T ty kk q =>
      ⟨v, p, _, .type T, _, true, rfl, upd_same, .cons (.ty "list") (.cons (.ty "tuple") .nil), ty, kk, k (.bl true) _ δ1 _ _ m2 (g1.trans nw.go) rfl q⟩
    cases x with
    | lst ds =>
      obtain ⟨q0, xs, e1, e2, _⟩ := r1
      subst e1
      exact fin "list" (.base (.lst (nw.hh _ _ (m1.ex _ _ e2)))) (kitAny_cons (b := true) (kit_ty (by decide +kernel)) (fun z => nomatch z) fun _ => rfl) q1
    | tup ds =>
      obtain ⟨q0, xs, e1, e2, _⟩ := r1
      subst e1
      exact fin "tuple" (.base (.tup (nw.hh _ _ (m1.ex _ _ e2)))) (kitAny_cons (b := false) (kit_ty (by decide +kernel)) (fun _ => kitAny_cons (b := true) (kit_ty (by decide +kernel)) (fun z => nomatch z) fun _ => rfl) (fun z => nomatch z)) q1
    | _ => exact q1.elim
theorem ref_isCl {c : Nat} (C : ClsOk G c) (I : IsOk G.K (G.cs c)) (ha : RefE G ta a) : RefE G (tCB (rIsi G.K) (tCons ta (tCons (tC (.ref (G.cs c))) tNil))) (dIsCl c a) := fun F O δ σ B H m DQ q Q k =>
  ha F O δ σ B H m _ q _ fun x v δ1 B1 H1 m1 g1 r1 q1 => by
    cases x with
    | obj k' ds =>
      obtain ⟨ek, q1⟩ := q1
      subst ek
      obtain ⟨p, dx, fs, e1, e2, _⟩ := r1
      subst e1
      exact ⟨_, .ref (G.cs k'), .ref (G.cs k'), .ref (G.cs k'), true, rfl, .own _, .base (.ins (m1.ex _ _ e2) C.cl I.ha I.hn I.ht I.hm), I.hk, k (.bl true) _ δ1 B1 H1 m1 g1 rfl q1⟩
    | _ => exact q1.elim
end

/-! ### promises, calls -/
abbrev DSp := List D → (D → Prop) → Prop
def pSp (G : Gx) (n : Nat) (f : DSp) : Sp := fun vs H Q _ => ∃ (F : Addr → Prop) (B : Hp) (ds : List D) (DQ : D → Prop), vs.length = n ∧ (∀ a, H a = none → F a) ∧ Ex B H ∧ Reps G F B ds vs ∧ f ds DQ ∧
  ∀ d v B' H', Nw B H B' H' → Rep G F B' d v → DQ d → Q v H'
/-- but for the object at p: nothing but new objects -/
structure NwP (p : Addr) (B H B' H' : Hp) : Prop where
  eb : Ex B B'
  ex : Ex B' H'
  hh : ∀ b o, b ≠ p → H b = some o → H' b = some o
  fr : ∀ b, H b ≠ none → B b = none → B' b = none
def qSp (G : Gx) (n : Nat) (f : DSp) : Sp := fun vs H Q _ => ∃ (F : Addr → Prop) (B : Hp) (p : Addr) (i j : Int) (us : List V) (ds : List D) (DQ : D → Prop), vs = .ref p :: us ∧ us.length = n ∧ (∀ a, H a = none → F a) ∧ F p ∧ Ex B H ∧ B p = none ∧ H p = some (.lst [.int i, .int j]) ∧ PotOk i j ∧ Reps G F B ds us ∧ f ds DQ ∧
  ∀ d v i' j' B' H', NwP p B H B' H' → H' p = some (.lst [.int i', .int j']) → PotOk i' j' → Rep G F B' d v → DQ d → Q v H'
def mSp (G : Gx) (k n : Nat) (f : List D → (List D → Prop) → Prop) : Sp := fun vs H Q _ => ∃ (F : Addr → Prop) (B : Hp) (p dx : Addr) (us : List V) (ds : List D) (DQ : List D → Prop), vs = .ref p :: us ∧ us.length = n ∧ (∀ a, H a = none → F a) ∧ F p ∧ Ex B H ∧ B p = none ∧ H p = some (.ins (G.cs k) dx []) ∧ Reps G F B ds us ∧ f ds DQ ∧
  ∀ es dx' fs B' H', NwP p B H B' H' → H' p = some (.ins (G.cs k) dx' fs) → fs.map (·.1) = fln k → Reps G F B' es (fs.map (·.2)) → DQ es → Q .non H'
def dCall (f : DSp) (es : List D) (a : DTA) : DTE := fun δ Q => a δ fun ds δ1 => f (ds ++ es) fun d => Q d δ1
def dCallP (i : Nat) (f : DSp) (a : DTA) : DTE := fun δ Q => match δ[i]? with
  | some (.pot _ none) => a δ fun ds δ1 => match δ1[i]? with
    | some (.pot _ none) => f ds fun d => Q d δ1
    | _ => False
  | _ => False
def dMake (k : Nat) (f : List D → (List D → Prop) → Prop) (a : DTA) : DTE := fun δ Q => a δ fun ds δ1 => f ds fun es => Q (.obj k es) δ1
section
variable {G : Gx} {n m : Nat} {tl : TA} {l : DTA} {f : DSp}
theorem ref_call {dvs : List V} {es : List D} (hd : ∀ F B, Reps G F B es dvs) (ha : RefA G m tl l) (hn : m + dvs.length = n := by rfl) : RefE G (tCall (pSp G n f) dvs E0 tl) (dCall f es l) := fun F O δ σ B H mm DQ q Q k =>
  ha F O δ σ B H mm _ q _ fun ds vs δ1 B1 H1 m1 g1 r1 h1 q1 =>
    ⟨F, B1, ds ++ es, _, by rw [List.length_append, h1]; exact hn, m1.ff, m1.ex, r1.app (hd F B1), q1, fun d v B2 H2 n2 r2 q2 => k d v δ1 B2 H2 (m1.nw n2) (g1.trans n2.go) r2 q2⟩
theorem ref_callP {i : Nat} (ha : RefA G n tl l) : RefE G (tCall (qSp G n f) [] E0 (tCons (tVar i) tl)) (dCallP i f l) := fun F O δ σ B H mm DQ q Q k => by
  unfold dCallP at q
  split at q
  · rename_i p e
    obtain ⟨v, hv, i0, j0, e1, _⟩ := mm.ok i _ e
    subst e1
    refine ⟨.ref p, hv, ha F O δ σ B H mm _ q _ fun ds vs δ1 B1 H1 m1 g1 r1 h1 q1 => ?_⟩
    split at q1
    · rename_i p2 e2
      obtain ⟨v2, hv2, i1, j1, f1, f2, f3, f4, f5, f6⟩ := m1.ok i _ e2
      rw [hv] at hv2
      cases hv2
      cases f1
      refine ⟨F, B1, p, i1, j1, vs ++ [], ds, _, rfl, by rw [List.append_nil]; exact h1, m1.ff, f4, m1.ex, f2, f5, f6, by rw [List.append_nil]; exact r1, q1, fun d v i' j' B2 H2 n2 hp2 po r2 q2 => ?_⟩
      have sp : ∀ b, H2 b = none → H1 b = none := fun b h => by
        by_cases z : b = p
        · rw [z, hp2] at h
          cases h
        · cases q : H1 b with
          | none => rfl
          | some o =>
            rw [n2.hh b o z q] at h
            cases h
      refine k d v δ1 B2 H2 ⟨n2.ex, fun b h => m1.fo b (sp b h), fun b h => m1.ff b (sp b h), m1.len, fun j s hs => ?_, m1.dj⟩ (g1.trans ⟨n2.eb, fun b o h hb hO => ⟨n2.hh b o (fun z => hO (z ▸ f3)) h, n2.fr b (ne_none h) hb⟩, sp⟩) r2 q2
      by_cases hij : i = j
      · subst hij
        rw [e2] at hs
        cases hs
        exact ⟨_, hv, i', j', rfl, n2.fr p (ne_none f5) f2, f3, f4, hp2, po⟩
      · obtain ⟨w, hw, kk⟩ := m1.ok j s hs
        refine ⟨w, hw, kk.step n2.eb fun b o ho ev hb => ?_⟩
        have z : b ≠ p := fun z => by
          subst z
          subst ev
          exact m1.dj i j _ s b hij e2 hs rfl ho hv hw
        exact ⟨n2.hh b o z hb, n2.fr b (ne_none hb) (kk.own_at ho ev).1⟩
    · exact q1.elim
  · exact q.elim
theorem ref_make {k : Nat} {f : List D → (List D → Prop) → Prop} (ha : RefA G n tl l) : RefE G (tMake (G.cs k) (mSp G k n f) [] E0 tl) (dMake k f l) := fun F O δ σ B H mm DQ q Q kk =>
  ha F O δ σ B H mm _ q _ fun ds vs δ1 B1 H1 m1 g1 r1 h1 q1 x dx hx hdx hne => by
    have n1 := Nw.side (o := .own x) m1.ex hdx
    have hx1 : (upd H1 dx (.own x)) x = none := by rw [upd_ne (Ne.symm hne)]; exact hx
    have n2 := Nw.side (o := .ins (G.cs k) dx []) n1.ex hx1
    have n12 := n1.trans n2
    refine ⟨F, B1, x, dx, vs ++ [], ds, _, rfl, by rw [List.append_nil]; exact h1, fun a h => m1.ff a (n12.hh.none h), m1.ff x hx, n12.ex, m1.ex.none hx, upd_same, by rw [List.append_nil]; exact r1, q1, fun es dx' fs B2 H2 n3 hx2 hfs r2 q2 => ⟨rfl, ?_⟩⟩
    have bx : B2 x = none := n3.fr x (by rw [upd_same]; exact fun z => nomatch z) (m1.ex.none hx)
    have eb2 : Ex B2 (upd B2 x (.ins (G.cs k) dx' fs)) := .upd bx
    have nw : Nw B1 H1 (upd B2 x (.ins (G.cs k) dx' fs)) H2 := ⟨n3.eb.trans eb2, n3.ex.low hx2, fun b o h => n3.hh b o (fun z => by rw [z, hx] at h; cases h) (n12.hh b o h), fun b h hb => by
      have z : b ≠ x := fun z => h (z ▸ hx)
      rw [upd_ne z]
      obtain ⟨o, ho⟩ := some_of_ne h
      exact n3.fr b (ne_none (n12.hh b o ho)) hb⟩
    exact kk (.obj k es) _ δ1 _ _ (m1.nw nw) (g1.trans nw.go) ⟨x, dx', fs, rfl, upd_same, hfs, Reps.mono eb2 _ _ r2⟩ q2
end
end K26
set_option Elab.async false
set_option linter.all false
set_option maxRecDepth 100000
set_option maxHeartbeats 1000000
namespace K26
open PySem PySem.Spec PyProof.Rows L2

/-! ## a def by its body -/
def startD (m : Nat) (ds : List D) : DS := ds.map Sl.dat ++ List.replicate (m - ds.length) .no
def pureE (Q : D → Prop) : DEnds := { nx := fun _ => Q .non, rt := fun d _ => Q d }
/-- the pot's slot at the end -/
def potEnd (p : Addr) (δ : DS) : Prop := ∃ n, δ[0]? = some (.pot p n) ∧ ∀ i j, n = some (i, j) → PotOk i j
def potN (c : Bool) (i j : Int) : Option (Int × Int) := match c with
  | true => some (i, j)
  | false => none
def potE (p : Addr) (Q : D → Prop) : DEnds := { nx := fun δ => potEnd p δ ∧ Q .non, rt := fun d δ => potEnd p δ ∧ Q d }
def startP (p : Addr) (n : Option (Int × Int)) (m : Nat) (ds : List D) : DS := .pot p n :: startD (m - 1) ds
def startM (p : Addr) (k m : Nat) (ds : List D) : DS := .ins p k [] :: startD (m - 1) ds
def makeE (p : Addr) (k : Nat) (Q : List D → Prop) : DEnds := { nx := fun δ => ∃ es, δ[0]? = some (.ins p k es) ∧ es.length = (fln k).length ∧ Q es, rt := fun _ _ => False }
theorem start_dat {G : Gx} {F O : Addr → Prop} {B H : Hp} {ds : List D} {vs : List V} {m : Nat} (r : Reps G F B ds vs) (i : Nat) (s : Sl) (h : (startD m ds)[i]? = some s) :
    ∃ v, (vs.map some ++ List.replicate (m - vs.length) none)[i]? = some v ∧ SlOk G F O B H s v ∧ s.isOwn = false := by
  have hl := r.length
  unfold startD at h
  by_cases hi : i < ds.length
  · rw [List.getElem?_append_left (by rw [List.length_map]; exact hi), List.getElem?_map, List.getElem?_eq_getElem hi] at h
    cases h
    obtain ⟨v, hv, rv⟩ := r.get (List.getElem?_eq_getElem hi)
    refine ⟨some v, ?_, ⟨v, rfl, rv⟩, rfl⟩
    rw [List.getElem?_append_left (by rw [List.length_map, hl]; exact hi), List.getElem?_map, hv]
    rfl
  · rw [List.getElem?_append_right (by rw [List.length_map]; omega), List.getElem?_replicate] at h
    split at h
    · rename_i hlt
      cases h
      refine ⟨none, ?_, trivial, rfl⟩
      rw [List.getElem?_append_right (by rw [List.length_map]; omega), List.getElem?_replicate, List.length_map, hl]
      rw [List.length_map] at hlt
      rw [if_pos hlt]
    · cases h
theorem startD_len {m : Nat} {ds : List D} {vs : List V} (h : vs.length = ds.length) : (startD m ds).length = (vs.map some ++ List.replicate (m - vs.length) (none : Option V)).length := by
  unfold startD
  rw [List.length_append, List.length_append, List.length_map, List.length_map, List.length_replicate, List.length_replicate, h]
theorem Go.toNw {B H B' H' : Hp} (g : Go (fun a => H a = none) B H B' H') (e : Ex B H) (e' : Ex B' H') : Nw B H B' H' := by
  refine ⟨g.eb, e', fun a o h => ?_, fun a h hb => ?_⟩
  · cases q : B a with
    | none => exact (g.kp a o h q (ne_none h)).1
    | some u =>
      have z := e a u q
      rw [h] at z
      cases z
      exact e' a _ (g.eb a _ q)
  · obtain ⟨o, ho⟩ := some_of_ne h
    exact (g.kp a o ho hb h).2
theorem Go.toNwP {B H B' H' : Hp} {p : Addr} (g : Go (fun a => H a = none ∨ a = p) B H B' H') (e : Ex B H) (e' : Ex B' H') (hb' : B' p = none) : NwP p B H B' H' := by
  refine ⟨g.eb, e', fun a o n h => ?_, fun a h hb => ?_⟩
  · cases q : B a with
    | none => exact (g.kp a o h q fun z => z.elim (ne_none h) n).1
    | some u =>
      have z := e a u q
      rw [h] at z
      cases z
      exact e' a _ (g.eb a _ q)
  · by_cases z : a = p
    · rw [z]
      exact hb'
    · obtain ⟨o, ho⟩ := some_of_ne h
      exact (g.kp a o ho hb fun q => q.elim h z).2
theorem start_cons {N : List Str} {v : V} {vs : List V} : L2.start N (v :: vs) = some v :: (vs.map some ++ List.replicate ((N.length - 1) - vs.length) none) := by
  unfold L2.start
  rw [List.map_cons, List.cons_append, List.length_cons, Nat.sub_sub, Nat.add_comm 1]

section
variable {P : Program} {w : World} {K : PySem.W.Frag} {mg : Str → Option Value} {base : Heap} {G : Gx} {x qual : Str} {params : Arguments} {body : List Stmt} {scope : Scope} {dvs : List V} {kws : List (Str × V)} {f : Addr} {fd : FuncData} {N ps : List Str} {k : Nat} {dts : DTS}
/-- the body's two readings, wherever it runs -/
abbrev Body (P : Program) (w : World) (K : PySem.W.Frag) (mg : Str → Option Value) (base : Heap) (G : Gx) (N : List Str) (qual : Str) (scope : Scope) (f : Addr) (k : Nat) (body : List Stmt) (dts : DTS) : Prop :=
  ∀ (cdv : Value) (A : Around) (outer : List Env) (s : Shared) (H : Hp) (E : XK), Room k (A.deeper (envOfC qual scope s.heap.objs.size f cdv)) → ∃ ts, PSs (cxOf CX0 P w K mg base N qual scope f cdv A outer s H E).nox body ts ∧ RefS G ts dts
theorem fn_pure {fs : DSp} (F : FunD K x qual params body scope dvs kws f fd) (S : FnScope N ps scope) (hb : Body P w K mg base G N qual scope f k body dts)
    (hd : ∀ ds DQ, ds.length = ps.length → fs ds DQ → dts (pureE DQ) (startD N.length ds)) : FnOk P w K mg base CX0 (k + 1) f fd ps (pSp G ps.length fs) := by
  refine F.ok S (fun vs H Q E h => ?_) (fun cdv A outer s H vs Q E hr h => ?_)
  · obtain ⟨_, _, _, _, h, _⟩ := h
    exact h
  · obtain ⟨F', B, ds, DQ, hl, ff, ex, r, hf, hq⟩ := h
    obtain ⟨ts, hp, hrf⟩ := hb cdv A outer s H E hr
    have m : Mat G F' (fun a => H a = none) (startD N.length ds) (L2.start N vs) B H := by
      refine ⟨ex, fun a h => h, ff, startD_len r.length, fun i s hs => ?_, fun i j s t a _ hs _ s1 => ?_⟩
      · obtain ⟨v, h1, h2, _⟩ := start_dat (O := fun a => H a = none) (H := H) r i s hs
        exact ⟨v, h1, h2⟩
      · obtain ⟨_, _, _, h3⟩ := start_dat (O := fun a => H a = none) (H := H) r i s hs
        rw [h3] at s1
        cases s1
    refine ⟨ts, hp.nox, hrf F' _ _ _ B H m _ (hd ds DQ (by rw [← r.length, hl]) hf) _ ⟨fun δ σ B' H' m' g q => ?_, fun d v δ σ B' H' m' g r' q => ?_, fun _ _ _ _ _ _ q => q.elim, fun _ _ _ _ _ _ q => q.elim⟩⟩
    · exact hq .non .non B' H' (g.toNw ex m'.ex) rfl q
    · exact hq d v B' H' (g.toNw ex m'.ex) r' q
theorem pot_run {fs : DSp} {c : Bool} {ts : TS} (hrf : RefS G ts dts) {n : Nat} (hd : ∀ p i j ds DQ, PotOk i j → ds.length = n → fs ds DQ → dts (potE p DQ) (startP p (potN c i j) N.length ds)) {vs : List V} {H : Hp} {Q : VK} {E : XK} (h : qSp G n fs vs H Q E) :
    ts { nx := fun _ H' => Q .non H', rt := Q } (L2.start N vs) H := by
  obtain ⟨F', B, p, i, j, us, ds, DQ, rfl, hl, ff, fp, ex, bp, hp, po, r, hf, hq⟩ := h
  have ps0 : PotIs (potN c i j) i j := by
    cases c with
    | true => exact ⟨rfl, rfl⟩
    | false => exact po
  have m : Mat G F' (fun a => H a = none ∨ a = p) (startP p (potN c i j) N.length ds) (L2.start N (.ref p :: us)) B H := by
    rw [start_cons]
    refine ⟨ex, fun a h => .inl h, ff, ?_, fun l s hs => ?_, fun l l' s t a hne hs ht s1 t1 => ?_⟩
    · show (startD (N.length - 1) ds).length + 1 = _ + 1
      rw [startD_len r.length]
    · cases l with
      | zero =>
        cases hs
        exact ⟨_, rfl, i, j, rfl, bp, .inr rfl, fp, hp, ps0⟩
      | succ l =>
        obtain ⟨v, h1, h2, _⟩ := start_dat (O := fun a => H a = none ∨ a = p) (H := H) r l s hs
        exact ⟨v, h1, h2⟩
    · cases l with
      | zero =>
        cases l' with
        | zero => exact absurd rfl hne
        | succ l' =>
          obtain ⟨_, _, _, h3⟩ := start_dat (O := fun a => H a = none ∨ a = p) (H := H) r l' t ht
          rw [h3] at t1
          cases t1
      | succ l =>
        obtain ⟨_, _, _, h3⟩ := start_dat (O := fun a => H a = none ∨ a = p) (H := H) r l s hs
        rw [h3] at s1
        cases s1
  have fin : ∀ {δ σ B' H'}, Mat G F' (fun a => H a = none ∨ a = p) δ σ B' H' → Go (fun a => H a = none ∨ a = p) B H B' H' → potEnd p δ → NwP p B H B' H' ∧ ∃ i' j', H' p = some (.lst [.int i', .int j']) ∧ PotOk i' j' := fun {δ σ B' H'} m' g q => by
    obtain ⟨n', h1, h2⟩ := q
    obtain ⟨v, _, i', j', _, k2, _, _, k5, k6⟩ := m'.ok 0 _ h1
    refine ⟨g.toNwP ex m'.ex k2, i', j', k5, ?_⟩
    cases n' with
    | none => exact k6
    | some ab =>
      obtain ⟨a, b⟩ := ab
      obtain ⟨e1, e2⟩ := k6
      rw [e1, e2]
      exact h2 a b rfl
  refine hrf F' _ _ _ B H m _ (hd p i j ds DQ po (by rw [← r.length, hl]) hf) _ ⟨fun δ σ B' H' m' g q => ?_, fun d v δ σ B' H' m' g r' q => ?_, fun _ _ _ _ _ _ q => q.elim, fun _ _ _ _ _ _ q => q.elim⟩
  · obtain ⟨h1, i', j', h2, h3⟩ := fin m' g q.1
    exact hq .non .non i' j' B' H' h1 h2 h3 rfl q.2
  · obtain ⟨h1, i', j', h2, h3⟩ := fin m' g q.1
    exact hq d v i' j' B' H' h1 h2 h3 r' q.2
theorem pot_len {fs : DSp} {n : Nat} (hn : ps.length = n + 1) {vs : List V} {H : Hp} {Q : VK} {E : XK} (h : qSp G n fs vs H Q E) : vs.length = ps.length := by
  obtain ⟨_, _, _, _, _, _, _, _, e, h, _⟩ := h
  rw [e, List.length_cons, h, hn]
theorem fn_pot {fs : DSp} {c : Bool} (F : FunD K x qual params body scope dvs kws f fd) (S : FnScope N ps scope) (hb : Body P w K mg base G N qual scope f k body dts) {n : Nat} (hn : ps.length = n + 1)
    (hd : ∀ p i j ds DQ, PotOk i j → ds.length = n → fs ds DQ → dts (potE p DQ) (startP p (potN c i j) N.length ds)) : FnOk P w K mg base CX0 (k + 1) f fd ps (qSp G n fs) := by
  refine F.ok S (fun vs H Q E h => pot_len hn h) (fun cdv A outer s H vs Q E hr h => ?_)
  obtain ⟨ts, hps, hrf⟩ := hb cdv A outer s H E hr
  exact ⟨ts, hps.nox, pot_run hrf hd h⟩
theorem fn_make {c : Nat} {fs : List D → (List D → Prop) → Prop} (F : FunD K x qual params body scope dvs kws f fd) (S : FnScope N ps scope) (hb : Body P w K mg base G N qual scope f k body dts) {n : Nat} (hn : ps.length = n + 1)
    (hd : ∀ p ds DQ, ds.length = n → fs ds DQ → dts (makeE p c DQ) (startM p c N.length ds)) : FnOk P w K mg base CX0 (k + 1) f fd ps (mSp G c n fs) := by
  refine F.ok S (fun vs H Q E h => ?_) (fun cdv A outer s H vs Q E hr h => ?_)
  · obtain ⟨_, _, _, _, _, _, _, e, h, _⟩ := h
    rw [e, List.length_cons, h, hn]
  · obtain ⟨F', B, p, dx, us, ds, DQ, rfl, hl, ff, fp, ex, bp, hp, r, hf, hq⟩ := h
    obtain ⟨ts, hps, hrf⟩ := hb cdv A outer s H E hr
    have m : Mat G F' (fun a => H a = none ∨ a = p) (startM p c N.length ds) (L2.start N (.ref p :: us)) B H := by
      rw [start_cons]
      refine ⟨ex, fun a h => .inl h, ff, ?_, fun l s hs => ?_, fun l l' s t a hne hs ht s1 t1 => ?_⟩
      · show (startD (N.length - 1) ds).length + 1 = _ + 1
        rw [startD_len r.length]
      · cases l with
        | zero =>
          cases hs
          exact ⟨_, rfl, dx, [], rfl, bp, .inr rfl, fp, hp, rfl, rfl⟩
        | succ l =>
          obtain ⟨v, h1, h2, _⟩ := start_dat (O := fun a => H a = none ∨ a = p) (H := H) r l s hs
          exact ⟨v, h1, h2⟩
      · cases l with
        | zero =>
          cases l' with
          | zero => exact absurd rfl hne
          | succ l' =>
            obtain ⟨_, _, _, h3⟩ := start_dat (O := fun a => H a = none ∨ a = p) (H := H) r l' t ht
            rw [h3] at t1
            cases t1
        | succ l =>
          obtain ⟨_, _, _, h3⟩ := start_dat (O := fun a => H a = none ∨ a = p) (H := H) r l s hs
          rw [h3] at s1
          cases s1
    refine ⟨ts, hps.nox, hrf F' _ _ _ B H m _ (hd p ds DQ (by rw [← r.length, hl]) hf) _ ⟨fun δ σ B' H' m' g q => ?_, fun _ _ _ _ _ _ _ _ _ q => q.elim, fun _ _ _ _ _ _ q => q.elim, fun _ _ _ _ _ _ q => q.elim⟩⟩
    obtain ⟨es, h1, h2, h3⟩ := q
    obtain ⟨v, _, dx', fs, _, k2, _, _, k5, k6, k7⟩ := m'.ok 0 _ h1
    exact hq es dx' fs B' H' (g.toNwP ex m'.ex k2) k5 (by rw [k6, h2, List.take_length]) k7 h3
end
end K26
set_option Elab.async false
set_option linter.all false
set_option maxRecDepth 100000
set_option maxHeartbeats 1000000
namespace K26
open PySem PySem.Spec PyProof.Rows L2

/-! ## the size of a set, repr, a call by keywords, a def that shows -/
def rLenT (K : PySem.W.Frag) (P : Program) (w : World) : List V → Hp → VK → Prop := fun xs H Q => ∃ (a : Addr) (L : List (Addr × List Int)), xs = [V.ref a] ∧ H a = some (SetTO P w a L) ∧ (∀ p ∈ L, SqT K H p.1 (p.2.map V.int)) ∧ (L.length < 64 → (L.map (·.2)).Nodup → Q (.int L.length) H)
theorem cr_lenT {X : Cx} : CallR X (.builtin "len") (rLenT X.K X.prog X.w) := by
  intro pins st σ H xs us Q I rv h
  obtain ⟨a, L, rfl, ha, hk, q⟩ := h
  have R0 : SetT0 X.prog X.w st.heap a L := (I.hok a _ ha).1
  obtain ⟨es, ep, tb, RR⟩ := R0.full fun p hp => I.isT (hk p hp)
  obtain ⟨o, ho, hex, hd⟩ := RR.ob
  rw [Vals.ref1 rv]
  have hs := RR.size
  have hf := RR.few
  refine call_len_set ho hex hd RR.fits (by rw [hs]; omega) ⟨.int L.length, H, I.tok _, ⟨_, by rw [hs]⟩, q hf RR.nd⟩
def tupI (k : List Int) : D := .tup (k.map D.int)
def dLenSet (a : DTE) : DTE := fun δ Q => a δ fun x δ1 => match x with
  | .lst ds => ∃ ks : List (List Int), ds = ks.map tupI ∧ ks.Nodup ∧ ks.length < 64 ∧ Q (.int ks.length) δ1
  | _ => False
section
variable {G : Gx} {ta : TE} {a : DTE} {P : Program} {w : World}
theorem tupIs_v {F : Addr → Prop} {B : Hp} : ∀ {ks : List (List Int)} {xs : List V}, Reps G F B (ks.map tupI) xs → ∃ ps : List (Addr × List Int), ps.map (·.2) = ks ∧ xs = ps.map (fun p => V.ref p.1) ∧ ∀ p ∈ ps, B p.1 = some (.tup (p.2.map V.int))
  | [], _, h => ⟨[], rfl, h, fun p hp => nomatch hp⟩
  | k :: ks, _, ⟨v, r, e1, e2, e3⟩ => by
    obtain ⟨ps, h1, h2, h3⟩ := tupIs_v e3
    obtain ⟨t, ys, f1, f2, f3⟩ := e2
    rw [reps_ints f3] at f2
    refine ⟨(t, k) :: ps, by rw [List.map_cons, h1], by rw [e1, f1, h2]; rfl, fun p hp => ?_⟩
    rcases List.mem_cons.mp hp with z | z
    · rw [z]
      exact f2
    · exact h3 p z
theorem nodup_le {α : Type} [DecidableEq α] : ∀ {l m : List α}, l.Nodup → (∀ x ∈ l, x ∈ m) → l.length ≤ m.length
  | [], _, _, _ => Nat.zero_le _
  | x :: l, m, nd, sub => by
    obtain ⟨n1, n2⟩ := List.nodup_cons.mp nd
    have hx : x ∈ m := sub x List.mem_cons_self
    have key := nodup_le (l := l) (m := m.erase x) n2 fun y hy => (List.mem_erase_of_ne fun (z : y = x) => n1 (by rw [← z]; exact hy)).mpr (sub y (List.mem_cons_of_mem _ hy))
    rw [List.length_erase_of_mem hx] at key
    have := List.length_pos_of_mem hx
    rw [List.length_cons]
    omega
theorem len_same {α : Type} [DecidableEq α] {l m : List α} (h1 : l.Nodup) (h2 : m.Nodup) (s1 : ∀ x ∈ l, x ∈ m) (s2 : ∀ x ∈ m, x ∈ l) : l.length = m.length :=
  Nat.le_antisymm (nodup_le h1 s1) (nodup_le h2 s2)
theorem ref_lenSet (ha : RefE G ta a) : RefE G (tCB (rLenT G.K P w) (tCons (tCB (rSetOfT G.K P w) (tCons ta tNil)) tNil)) (dLenSet a) := fun F O δ σ B H m DQ q Q k =>
  ha F O δ σ B H m _ q _ fun x v δ1 B1 H1 m1 g1 r1 q1 => by
    cases x with
    | lst ds =>
      obtain ⟨ks, e, nd, hl, q2⟩ := q1
      subst e
      obtain ⟨l, xs, e1, e2, e3⟩ := r1
      subst e1
      obtain ⟨ps, h1, h2, h3⟩ := tupIs_v e3
      subst h2
      have hpl : ps.length = ks.length := by rw [← h1, List.length_map]
      refine ⟨l, ps, rfl, .inl (.inl (m1.ex _ _ e2)), fun p hp => .inl (.inl (m1.ex _ _ (h3 p hp))), by omega, fun s L hs s1 s2 => ?_⟩
      have nw := Nw.side (o := SetTO P w s L) m1.ex hs
      refine ⟨s, L, rfl, upd_same, fun p hp => .inl (.inl (nw.ex _ _ (h3 p (s1 p hp)))), fun _ nd2 => ?_⟩
      have el : L.length = ks.length := by
        have z : (L.map (·.2)).length = ks.length := len_same nd2 nd (fun y hy => by
          obtain ⟨p, hp, e⟩ := List.mem_map.mp hy
          rw [← e, ← h1]
          exact List.mem_map.mpr ⟨p, s1 p hp, rfl⟩) fun y hy => by
          rw [← h1] at hy
          obtain ⟨p, hp, e⟩ := List.mem_map.mp hy
          rw [← e]
          exact s2 p hp
        rw [List.length_map] at z
        exact z
      exact k (.int ks.length) _ δ1 _ _ (m1.nw nw) (g1.trans nw.go) (congrArg (fun n : Nat => V.int n) el) q2
    | _ => exact q1.elim
end
structure ReprOk (d : PyData) : Prop where
  sh : d.showable = true
  nd : d.hasDict = false
  dp : d.depth ≤ 60
  sz : d.shown.length ≤ sizeLine
def rRepr (K : PySem.W.Frag) : List V → Hp → VK → Prop := fun xs H Q => ∃ (a : Addr) (d : PyData), xs = [.ref a] ∧ Dp K H (.ref a) d ∧ ReprOk d ∧ Q (.str d.shown) H
theorem cr_repr {X : Cx} (hu : X.A.units + 64 < cLine) (hg : X.A.guards = some []) : CallR X (.builtin "repr") (rRepr X.K) := by
  intro pins st σ H xs us Q I rv h
  obtain ⟨a, d, rfl, hd, ok, q⟩ := h
  rw [Vals.ref1 rv]
  obtain ⟨as, rd⟩ := Dp.reads I d (.ref a) (.ref a) hd rfl
  have := ok.dp
  refine repr_of_reads' rd ok.sh (fun z => by rw [ok.nd] at z; cases z) hg (by omega) (fun _ _ e => e) (fun h' u tk hk => ⟨.str d.shown, H, I.kept hk, ⟨u, rfl⟩, q⟩) ok.sz
def reprD : DRC := fun xs Q => match xs with
  | [.lst ds] => (D.flats ds = true ∧ ReprOk (.list (D.pys ds))) ∧ Q (.str (PyData.list (D.pys ds)).shown)
  | [.new ds] => (D.flats ds = true ∧ ReprOk (.list (D.pys ds))) ∧ Q (.str (PyData.list (D.pys ds)).shown)
  | _ => False
theorem rc_repr {G : Gx} : RefC G (rRepr G.K) reprD := fun F B H xs ds ex ff r DQ q Q k => by
  unfold reprD at q
  split at q
  · rename_i es
    obtain ⟨v, rfl, rv⟩ := reps1 r
    obtain ⟨p, ys, e1, e2, e3⟩ := rv
    subst e1
    exact ⟨p, _, rfl, .lst (.inl (.inl (ex _ _ e2))) (Reps.dp ex es ys q.1.1 e3), q.1.2, k (.str _) _ B H (.refl ex) rfl q.2⟩
  · rename_i es
    obtain ⟨v, rfl, rv⟩ := reps1 r
    obtain ⟨p, ys, e1, _, e2, e3⟩ := rv
    subst e1
    exact ⟨p, _, rfl, .lst (.inl (.inl (ex _ _ e2))) (Reps.dp ex es ys q.1.1 e3), q.1.2, k (.str _) _ B H (.refl ex) rfl q.2⟩
  · exact q.elim

/-! ### f(target=.., yard=.., web=..) -/
structure Kal (P : Program) (w : World) (K : PySem.W.Frag) (mg : Str → Option Value) (base : Heap) (k : Nat) (x : Str) (k1 k2 k3 : Str) (sp : Sp) : Prop where
  ex : ∃ (f : Addr) (fd : FuncData) (ps : List Str), FnOk P w K mg base CX0 k f fd ps sp ∧ mg x = some (.ref f) ∧ PySem.W.keepIn K (.ref f) = true ∧
    ∀ (st : Shared) (a b c : Value), BindsTo st fd ⟨[], [(k1, a), (k2, b), (k3, c)]⟩ (ps.zip [c, b, a])
def tCallW (sp : Sp) (t : TA) : TE := fun σ H Q => t σ H fun zs H2 => zs.length = 3 ∧ sp zs.reverse H2 Q E0
theorem pe_callW {X : Cx} {k j : Nat} {x k1 k2 k3 : Str} {sp : Sp} {t : TA} {p pos : Pos} {kws : List Keyword} (c : Kal X.prog X.w X.K X.mg X.base k x k1 k2 k3 sp) (hr : Room j X.A) (hk : k ≤ j) (hg : Gl X x) (hkw : PK X kws t)
    (hall : (backToKw pos (keywordEach kws X.env)).all (·.1.isSome) = true := by rfl) (hks : (backToKw pos (keywordEach kws X.env)).filterMap (·.1) = [k1, k2, k3] := by rfl)
    (hdb : (x == ("__debug__" : Str)) = false := by decide) (hpl : ((backTo pos (starEach [] X.env)).any (·.1) || (backToKw pos (keywordEach kws X.env)).any (·.1.isNone)) = false := by rfl) :
    PE X (.Call (.Name x p) [] kws pos) (tCallW sp t) := by
  obtain ⟨f, fd, ps, FO, hm, kp, bd⟩ := c.ex
  refine ⟨fun pins st σ H Q I h => wpAny_Call_Name_kw (ld_glob I hg hm (PySem.W.callWith_KW0 (h₀ := X.base) I.ok.mod.kin kp hall (thn (hkw.run pos pins st σ H _ I h) fun ws s2 ⟨zs, H2, I2, rz, hl, q2⟩ => ⟨I2.kIn, ?_⟩) hpl) hdb)⟩
  rw [hks]
  obtain ⟨a, b, d, ez⟩ : ∃ a b d, zs = [a, b, d] := by
    match zs, hl with
    | [a, b, d], _ => exact ⟨a, b, d, rfl⟩
  subst ez
  obtain ⟨u1, u2, u3, ew, r1, r2, r3⟩ : ∃ u1 u2 u3, ws = [u1, u2, u3] ∧ RelV a u1 ∧ RelV b u2 ∧ RelV d u3 := by
    cases rz with
    | cons r1 rz => cases rz with
      | cons r2 rz => cases rz with
        | cons r3 rz => cases rz with
          | nil => exact ⟨_, _, _, rfl, r1, r2, r3⟩
  subst ew
  have q3 : sp [d, b, a] H2 Q E0 := q2
  have r4 : Vals [d, b, a] [u3, u2, u1] := .cons r3 (.cons r2 (.cons r1 .nil))
  refine wpAny_call (codeAny_mono ((FO.mono hk).run X.A X.stack s2 H2 ⟨[], [(k1, u1), (k2, u2), (k3, u3)]⟩ [u3, u2, u1] [d, b, a] Q E0 hr I2.env0 (bd s2 u1 u2 u3) r4 q3) fun re s3 hq => ?_)
  match re, hq with
  | .error e, hq => exact pass0 pins σ H2 s2 e s3 I2 hq
  | .ok (.ret u), hq => exact I2.after hq
def dCallW (f : DSp) (a : DTA) : DTE := fun δ Q => a δ fun ds δ1 => f ds.reverse fun d => Q d δ1
theorem Reps.rev {G : Gx} {F : Addr → Prop} {B : Hp} : ∀ {ds : List D} {vs : List V}, Reps G F B ds vs → Reps G F B ds.reverse vs.reverse
  | [], _, h => by
    rw [show _ = [] from h]
    exact rfl
  | d :: ds, _, ⟨v, r, e, h1, h2⟩ => by
    rw [e, List.reverse_cons, List.reverse_cons]
    exact (Reps.rev h2).app (.one h1)
theorem ref_callW {G : Gx} {tl : TA} {l : DTA} {f : DSp} (ha : RefA G 3 tl l) : RefE G (tCallW (pSp G 3 f) tl) (dCallW f l) := fun F O δ σ B H mm DQ q Q k =>
  ha F O δ σ B H mm _ q _ fun ds vs δ1 B1 H1 m1 g1 r1 h1 q1 =>
    ⟨h1, F, B1, ds.reverse, _, by rw [List.length_reverse, h1], m1.ff, m1.ex, r1.rev, q1, fun d v B2 H2 n2 r2 q2 => k d v δ1 B2 H2 (m1.nw n2) (g1.trans n2.go) r2 q2⟩

/-! ### f(e, ..), f by its place among the facts -/
theorem ref_callC {G : Gx} {n m : Nat} {tl : TA} {l : DTA} {f : DSp} {dvs : List V} {es : List D} (hd : ∀ F B, Reps G F B es dvs) (ha : RefA G m tl l) (hn : m + dvs.length = n := by rfl) : RefE G (tCall (pSp G n f) dvs E0 tl) (dCall f es l) := ref_call hd ha hn
end K26
set_option Elab.async false
set_option linter.all false
set_option maxRecDepth 100000
set_option maxHeartbeats 1000000
namespace K26
open PySem PySem.Spec PyProof.Rows L2

/-! ## a def that is entered with no guard around (for repr) -/
structure FnG (P : Program) (w : World) (K : PySem.W.Frag) (mg : Str → Option Value) (base : Heap) (k : Nat) (f : Addr) (fd : FuncData) (ps : List Str) (sp : Sp) : Prop where
  run : ∀ (A : Around) (outer : List Env) (st : Shared) (H : Hp) (args : Args) (us : List Value) (vs : List V) (Q : VK) (E : XK), A.guards = some [] → Room k A → Env0 P w K mg base A outer st H → BindsTo st fd args (ps.zip us) → Vals vs us → vs.length = ps.length → sp vs H Q E →
    codeAny (model P w) A (.call (.ref f) args) (CR CX0 outer P w H st Q E) st
section
variable {P : Program} {w : World} {K : PySem.W.Frag} {mg : Str → Option Value} {base : Heap} {x qual : Str} {params : Arguments} {body : List Stmt} {scope : Scope} {dvs : List V} {kws : List (Str × V)} {f : Addr} {fd : FuncData} {N ps : List Str} {k : Nat} {sp : Sp}
theorem fnG_by (F : FunD K x qual params body scope dvs kws f fd) (S : FnScope N ps scope)
    (walk : ∀ (cdv : Value) (A : Around) (outer : List Env) (st : Shared) (H : Hp) (vs : List V) (Q : VK) (E : XK), A.guards = some [] → Room k (A.deeper (envOfC qual scope st.heap.objs.size f cdv)) → sp vs H Q E →
      ∃ ts, PSs (cxOf CX0 P w K mg base N qual scope f cdv A outer st H E) body ts ∧ ts { nx := fun _ H' => Q .non H', rt := Q } (L2.start N vs) H) : FnG P w K mg base (k + 1) f fd ps sp := by
  obtain ⟨oc, od, dV, kV, doc, pm, an, cdv, ct, osl, efd, lk, hcd, _, _⟩ := F.ex
  subst efd
  constructor
  intro A outer st H args us vs Q E hg hr e0 hb rv hl hsp
  have kin : K.In st.heap := e0.mod.kin.keeps fun b o e => (e0.bs b o e).1
  have nol : st.heap.NoLimit := e0.mod.nolimit.keeps fun b o e => (e0.bs b o e).1
  refine codeAny_call_function hr.depth (kin _ _ lk) rfl S.co S.gen rfl (PySem.W.codeRec_of kin hcd) (hb _ _ _ _ ?_)
  have names : ∀ y ∈ ps.zip us, scope.names.lookup y.1 = some .local ∨ (scope.names.lookup y.1 = some .cell ∧ ((cellsFrom (st.heap.objs.size + 1) scope.names []).lookup y.1).isSome = true) := by
    rintro ⟨n, v⟩ hy
    exact (S.par n (List.of_mem_zip hy).1).elim .inl fun c => .inr ⟨c, PySem.W.cellsFrom_some _ _ _ (.inl c)⟩
  refine wpAny_newFunctionEnv_cells S.kind names fun env he s1 xx => ?_
  subst he
  refine ⟨nol.keeps xx.toInCall.keep, codeAny_func ?_⟩
  obtain ⟨ts, hts, q⟩ := walk cdv A outer st H vs Q E hg (hr.deeper _) hsp
  have I0 : Inv (cxOf CX0 P w K mg base N qual scope f cdv A outer st H E) [] (L2.start N vs) H s1 := inv_start S hr.hd e0 hl rv xx
  refine wpAny_mono (hts.run [] s1 (L2.start N vs) H _ I0 q) (fun fl s2 hs => ?_) fun _ _ hs => hs
  match fl, hs with
  | .ret u, ⟨v, σ', H', J, rr, q'⟩ => exact ⟨v, H', J.os, J.bare, J.base, J.hok, rr, q'⟩
  | .next, ⟨σ', H', J, q'⟩ => exact ⟨.non, H', J.os, J.bare, J.base, J.hok, rfl, q'⟩
  | .brk, ⟨_, _, _, q'⟩ => exact q'.elim
  | .cont, ⟨_, _, _, q'⟩ => exact q'.elim
/-- the call of such a def from a body that has no guard around it either -/
theorem pe_callG {X : Cx} {x : Str} {e : Expr} {es : List Expr} {t : TA} {p pos : Pos} (F : FnG X.prog X.w X.K X.mg X.base k f fd ps sp) (gd : X.A.guards = some []) (hr : Room k X.A) (hg : Gl X x) (hm : X.mg x = some (.ref f)) (hk : PySem.W.keepIn X.K (.ref f) = true) (hb : Binds X.K fd ps [])
    (len : ∀ vs H Q E, sp vs H Q E → vs.length = ps.length) (ha : PA X (e :: es) t) (hdb : (x == ("__debug__" : Str)) = false := by decide) (he : starEach (e :: es) X.env = (false, eval e X.env) :: starEach es X.env := by rfl) (hpl : (backTo pos (starEach es X.env)).any (·.1) = false := by rfl) :
    PE X (.Call (.Name x p) (e :: es) [] pos) (tCall sp [] E0 t) := by
  refine ⟨fun pins st σ H Q I h => wpAny_Call_Name_kw (ld_glob I hg hm (PySem.W.callWith_K (h₀ := X.base) I.ok.mod.kin hk (thn (ha.run pos pins st σ H _ I h) fun us s1 ⟨vs, H1, I1, rv, q⟩ => ⟨I1.kIn, ?_⟩) he hpl) hdb)⟩
  have q' : sp vs H1 Q E0 := by
    have z : sp (vs ++ []) H1 Q E0 := q
    rw [List.append_nil] at z
    exact z
  have hl := len _ _ _ _ q'
  have bd := hb s1 us I1.kIn (by rw [List.append_nil, ← rv.length]; exact hl)
  rw [List.append_nil] at bd
  refine wpAny_call (codeAny_mono (F.run X.A X.stack s1 H1 ⟨us, []⟩ us vs Q E0 gd hr I1.env0 bd rv hl q') fun re s3 hq => ?_)
  match re, hq with
  | .error e, hq => exact pass0 pins σ H1 s1 e s3 I1 hq
  | .ok (.ret u), hq => exact I1.after hq
end

section
variable {P : Program} {w : World} {K : PySem.W.Frag} {mg : Str → Option Value} {base : Heap} {G : Gx} {x qual : Str} {params : Arguments} {body : List Stmt} {scope : Scope} {dvs : List V} {kws : List (Str × V)} {f : Addr} {fd : FuncData} {N ps : List Str} {k : Nat} {dts : DTS}
theorem fnG_pot {fs : DSp} {c : Bool} (F : FunD K x qual params body scope dvs kws f fd) (S : FnScope N ps scope)
    (hb : ∀ (cdv : Value) (A : Around) (outer : List Env) (st : Shared) (H : Hp) (E : XK), A.guards = some [] → Room k (A.deeper (envOfC qual scope st.heap.objs.size f cdv)) → ∃ ts, PSs (cxOf CX0 P w K mg base N qual scope f cdv A outer st H E).nox body ts ∧ RefS G ts dts) {n : Nat}
    (hd : ∀ p i j ds DQ, PotOk i j → ds.length = n → fs ds DQ → dts (potE p DQ) (startP p (potN c i j) N.length ds)) : FnG P w K mg base (k + 1) f fd ps (qSp G n fs) :=
  fnG_by F S fun cdv A outer st H vs Q E hg hr h => by
    obtain ⟨ts, hps, hrf⟩ := hb cdv A outer st H E hg hr
    exact ⟨ts, hps.nox, pot_run hrf hd h⟩
end

/-! ### the law's call -/
theorem callG {P : Program} {w : World} {K : PySem.W.Frag} {mg mb : Str → Option Value} {k : Nat} {fa a : Addr} {fd : FuncData} {x : Str} {sp : Sp} {st : Shared} {vs : List Value} {ns : List Int}
    (kin : K.In st.heap) (hns : st.heap.Ns mainGlobals mg) (hb : st.heap.Ns builtinsNs mb) (hbb : ∀ y : Str, y ≠ "__name__" → mb y = bootBuiltins y) (nol : st.heap.NoLimit) (hg : st.gens = #[])
    (ha : st.heap.get? a = some { cls := .type "list", data := .seq vs.toArray }) (hi : IntsAre vs ns) (hl : ns.length ≤ sizeLine) (hr : Room k callerA)
    (F : ∀ base : Heap, K.In base → base.Ns mainGlobals mg → FnG P w K mg base k fa fd [x] sp) (bd : ∀ (st : Shared) (u : Value), BindsTo st fd ⟨[u], []⟩ [(x, u)])
    (hsp : ∀ H : Hp, Only H → SqL K H a (ns.map V.int) → sp [.ref a] H (fun v _ => v = .bl true) fun _ _ _ => False) :
    codeAny (model P w) callerA (.call (.ref fa) ⟨[.ref a], []⟩) (fun re s' => re = .ok (.ret (.bool true)) ∧ OldK st.heap s'.heap ∧ s'.os = st.os ∧ AllBare s'.gens) st := by
  have rv := vals_ints hi
  have lv := hi.length
  have main : ∀ H : Hp, Only H → SqL K H a (ns.map V.int) → HOk P w H st.heap → (∀ b u, H b = some u → b = a ∧ K.lookup a = none) →
      codeAny (model P w) callerA (.call (.ref fa) ⟨[.ref a], []⟩) (fun re s' => re = .ok (.ret (.bool true)) ∧ OldK st.heap s'.heap ∧ s'.os = st.os ∧ AllBare s'.gens) st := fun H only hS hok hH => by
    have outK : ∀ {b : Addr} {o : Obj}, K.lookup b = some o → H b = none := fun {b o} e => by
      cases q : H b with
      | none => rfl
      | some u =>
        obtain ⟨e1, e2⟩ := hH b u q
        rw [e1, e2] at e
        cases e
    have outD : ∀ {b : Addr} {o : Obj} {es : Array DictEntry} {ep : Nat}, st.heap.get? b = some o → o.data = .dict es ep → H b = none := fun {b o es ep} e d => by
      cases q : H b with
      | none => rfl
      | some u =>
        rw [(hH b u q).1, ha] at e
        cases e
        exact nomatch (show Data.seq vs.toArray _ = Data.dict es ep from d)
    have getK : ∀ {b : Addr} {o : Obj}, st.heap.get? b = some o → H b = none → (hidT st.heap H).get? b = some o := hidT_get
    have nsK : ∀ {b : Addr} {m : Str → Option Value}, st.heap.Ns b m → (hidT st.heap H).Ns b m := fun {b m} ⟨o, es, ep, e, d, r⟩ => ⟨o, es, ep, getK e (outD e d), d, r⟩
    have kin2 : K.In (hidT st.heap H) := fun b o e => getK (kin b o e) (outK e)
    have md : Mod K mg (hidT st.heap H) := ⟨kin2, nsK hns, ⟨mb, nsK hb, hbb⟩, by
      obtain ⟨mc, l1, l2⟩ := nol
      exact ⟨mc, nsK l1, l2⟩⟩
    have env : Env0 P w K mg (hidT st.heap H) callerA [] st H := ⟨rfl, md, fun _ _ e => of_hidT e, Nat.le_of_eq (hidT_size _ _), trivial, fun _ hb => (List.not_mem_nil hb).elim, hok, .of_eq hg⟩
    refine codeAny_mono ((F _ kin2 (nsK hns)).run callerA [] st H ⟨[.ref a], []⟩ [.ref a] [.ref a] _ _ rfl hr env (bd st (.ref a)) (.cons rfl .nil) rfl (hsp H only hS)) fun re s' hq => ?_
    match re, hq with
    | .error e, hq => exact (show False from hq).elim
    | .ok (.ret u), hq =>
      obtain ⟨v, H', os, bare, un, hok', rr, q⟩ := hq
      have ev : v = .bl true := q
      subst ev
      have eu : u = Value.bool true := rr
      subst eu
      refine ⟨rfl, .of_keep fun b o e => ?_, os, bare⟩
      cases z : H b with
      | none => exact un.keep b o e z (fun y => (List.not_mem_nil y).elim) (by simp)
      | some u =>
        rcases only b with y | ⟨ob, xs, y⟩
        · rw [z] at y
          cases y
        · have e1 := (hok b _ y).1
          have e2 := (hok' b _ (un.frzs b ob _ y)).1
          rw [e] at e1
          cases e1
          exact e2
  cases hk : K.lookup a with
  | some o =>
    have e := kin a o hk
    rw [ha] at e
    cases e
    exact main (fun _ => none) (fun _ => .inl rfl) (.inr ⟨_, vs.toArray, _, hk, rfl, rfl, rfl, by rw [List.size_toArray, lv]; exact hl, by simpa using rv⟩) (fun _ _ z => nomatch (show (none : Option HO) = some _ from z)) fun _ _ z => nomatch (show (none : Option HO) = some _ from z)
  | none =>
    refine main (upd (fun _ => none) a (.frz { cls := .type "list", data := .seq vs.toArray } (.lst (ns.map V.int)))) (fun b => ?_) (.inl (.inr ⟨_, upd_same⟩)) (fun b u z => ?_) fun b u z => ?_
    · by_cases h : b = a
      · subst h
        exact .inr ⟨_, _, upd_same⟩
      · exact .inl (upd_ne h)
    · by_cases h : b = a
      · subst h
        rw [upd_same] at z
        cases z
        exact ⟨ha, by rw [List.length_map]; exact hl, vs, _, rv, ha⟩
      · rw [upd_ne h] at z
        cases z
    · by_cases h : b = a
      · exact ⟨h, hk⟩
      · rw [upd_ne h] at z
        cases z
end K26
set_option Elab.async false
set_option linter.all false
set_option maxRecDepth 100000
set_option maxHeartbeats 1000000
namespace K26
open PySem PySem.Spec PyProof.Rows L2

/-! ## what the head tells, by names -/
structure Tp (K : PySem.W.Frag) (mg : Str → Option Value) (base : Heap) : Prop where
  c : He.SaysD fa fn K
  i : isBs K = true
  kin : K.In base
  ns : base.Ns mainGlobals mg
abbrev gx (K : PySem.W.Frag) : Gx := ⟨K, fun | 0 => He.ga K "Country" | _ + 1 => He.ga K "Web"⟩
section
variable {K : PySem.W.Frag} {mg : Str → Option Value} {base : Heap}
theorem Tp.g_is_integer (T : Tp K mg base) : mg "is_integer" = some (.ref (He.ga K "is_integer")) := He.glo_ok T.kin T.ns (T.c.fact 0 (f := .glo "is_integer") rfl)
theorem Tp.g_is_count (T : Tp K mg base) : mg "is_count" = some (.ref (He.ga K "is_count")) := He.glo_ok T.kin T.ns (T.c.fact 1 (f := .glo "is_count") rfl)
theorem Tp.g_is_list (T : Tp K mg base) : mg "is_list" = some (.ref (He.ga K "is_list")) := He.glo_ok T.kin T.ns (T.c.fact 2 (f := .glo "is_list") rfl)
theorem Tp.g_lane_in (T : Tp K mg base) : mg "lane_in" = some (.ref (He.ga K "lane_in")) := He.glo_ok T.kin T.ns (T.c.fact 3 (f := .glo "lane_in") rfl)
theorem Tp.g_ties_of (T : Tp K mg base) : mg "ties_of" = some (.ref (He.ga K "ties_of")) := He.glo_ok T.kin T.ns (T.c.fact 4 (f := .glo "ties_of") rfl)
theorem Tp.g_is_whole (T : Tp K mg base) : mg "is_whole" = some (.ref (He.ga K "is_whole")) := He.glo_ok T.kin T.ns (T.c.fact 5 (f := .glo "is_whole") rfl)
theorem Tp.g_ahead_of (T : Tp K mg base) : mg "ahead_of" = some (.ref (He.ga K "ahead_of")) := He.glo_ok T.kin T.ns (T.c.fact 6 (f := .glo "ahead_of") rfl)
theorem Tp.g_lanes_in (T : Tp K mg base) : mg "lanes_in" = some (.ref (He.ga K "lanes_in")) := He.glo_ok T.kin T.ns (T.c.fact 7 (f := .glo "lanes_in") rfl)
theorem Tp.g_beside (T : Tp K mg base) : mg "beside" = some (.ref (He.ga K "beside")) := He.glo_ok T.kin T.ns (T.c.fact 8 (f := .glo "beside") rfl)
theorem Tp.g_yards_in (T : Tp K mg base) : mg "yards_in" = some (.ref (He.ga K "yards_in")) := He.glo_ok T.kin T.ns (T.c.fact 9 (f := .glo "yards_in") rfl)
theorem Tp.g_is_place (T : Tp K mg base) : mg "is_place" = some (.ref (He.ga K "is_place")) := He.glo_ok T.kin T.ns (T.c.fact 10 (f := .glo "is_place") rfl)
theorem Tp.g_is_yard (T : Tp K mg base) : mg "is_yard" = some (.ref (He.ga K "is_yard")) := He.glo_ok T.kin T.ns (T.c.fact 11 (f := .glo "is_yard") rfl)
theorem Tp.g_want_country (T : Tp K mg base) : mg "want_country" = some (.ref (He.ga K "want_country")) := He.glo_ok T.kin T.ns (T.c.fact 12 (f := .glo "want_country") rfl)
theorem Tp.g_want_yard (T : Tp K mg base) : mg "want_yard" = some (.ref (He.ga K "want_yard")) := He.glo_ok T.kin T.ns (T.c.fact 13 (f := .glo "want_yard") rfl)
theorem Tp.g_pairs_at (T : Tp K mg base) : mg "pairs_at" = some (.ref (He.ga K "pairs_at")) := He.glo_ok T.kin T.ns (T.c.fact 14 (f := .glo "pairs_at") rfl)
theorem Tp.g_is_some_of (T : Tp K mg base) : mg "is_some_of" = some (.ref (He.ga K "is_some_of")) := He.glo_ok T.kin T.ns (T.c.fact 15 (f := .glo "is_some_of") rfl)
theorem Tp.g_load_in (T : Tp K mg base) : mg "load_in" = some (.ref (He.ga K "load_in")) := He.glo_ok T.kin T.ns (T.c.fact 16 (f := .glo "load_in") rfl)
theorem Tp.g_want_load (T : Tp K mg base) : mg "want_load" = some (.ref (He.ga K "want_load")) := He.glo_ok T.kin T.ns (T.c.fact 17 (f := .glo "want_load") rfl)
theorem Tp.g_plus_cart (T : Tp K mg base) : mg "plus_cart" = some (.ref (He.ga K "plus_cart")) := He.glo_ok T.kin T.ns (T.c.fact 18 (f := .glo "plus_cart") rfl)
theorem Tp.g_is_end_for (T : Tp K mg base) : mg "is_end_for" = some (.ref (He.ga K "is_end_for")) := He.glo_ok T.kin T.ns (T.c.fact 19 (f := .glo "is_end_for") rfl)
theorem Tp.g_is_bound_for (T : Tp K mg base) : mg "is_bound_for" = some (.ref (He.ga K "is_bound_for")) := He.glo_ok T.kin T.ns (T.c.fact 20 (f := .glo "is_bound_for") rfl)
theorem Tp.g_alternative_in (T : Tp K mg base) : mg "alternative_in" = some (.ref (He.ga K "alternative_in")) := He.glo_ok T.kin T.ns (T.c.fact 21 (f := .glo "alternative_in") rfl)
theorem Tp.g_keeps (T : Tp K mg base) : mg "keeps" = some (.ref (He.ga K "keeps")) := He.glo_ok T.kin T.ns (T.c.fact 22 (f := .glo "keeps") rfl)
theorem Tp.g_stands_by_one (T : Tp K mg base) : mg "stands_by_one" = some (.ref (He.ga K "stands_by_one")) := He.glo_ok T.kin T.ns (T.c.fact 23 (f := .glo "stands_by_one") rfl)
theorem Tp.g_stands_by (T : Tp K mg base) : mg "stands_by" = some (.ref (He.ga K "stands_by")) := He.glo_ok T.kin T.ns (T.c.fact 24 (f := .glo "stands_by") rfl)
theorem Tp.g_book_in (T : Tp K mg base) : mg "book_in" = some (.ref (He.ga K "book_in")) := He.glo_ok T.kin T.ns (T.c.fact 25 (f := .glo "book_in") rfl)
theorem Tp.g_want_book (T : Tp K mg base) : mg "want_book" = some (.ref (He.ga K "want_book")) := He.glo_ok T.kin T.ns (T.c.fact 26 (f := .glo "want_book") rfl)
theorem Tp.g_told_book (T : Tp K mg base) : mg "told_book" = some (.ref (He.ga K "told_book")) := He.glo_ok T.kin T.ns (T.c.fact 27 (f := .glo "told_book") rfl)
theorem Tp.g_want_yard_of (T : Tp K mg base) : mg "want_yard_of" = some (.ref (He.ga K "want_yard_of")) := He.glo_ok T.kin T.ns (T.c.fact 28 (f := .glo "want_yard_of") rfl)
theorem Tp.g_want_neighbour (T : Tp K mg base) : mg "want_neighbour" = some (.ref (He.ga K "want_neighbour")) := He.glo_ok T.kin T.ns (T.c.fact 29 (f := .glo "want_neighbour") rfl)
theorem Tp.g_book_at (T : Tp K mg base) : mg "book_at" = some (.ref (He.ga K "book_at")) := He.glo_ok T.kin T.ns (T.c.fact 30 (f := .glo "book_at") rfl)
theorem Tp.g_country_of (T : Tp K mg base) : mg "country_of" = some (.ref (He.ga K "country_of")) := He.glo_ok T.kin T.ns (T.c.fact 31 (f := .glo "country_of") rfl)
theorem Tp.g_want_web (T : Tp K mg base) : mg "want_web" = some (.ref (He.ga K "want_web")) := He.glo_ok T.kin T.ns (T.c.fact 32 (f := .glo "want_web") rfl)
theorem Tp.g_standing_by (T : Tp K mg base) : mg "standing_by" = some (.ref (He.ga K "standing_by")) := He.glo_ok T.kin T.ns (T.c.fact 33 (f := .glo "standing_by") rfl)
theorem Tp.g_are_refused (T : Tp K mg base) : mg "are_refused" = some (.ref (He.ga K "are_refused")) := He.glo_ok T.kin T.ns (T.c.fact 34 (f := .glo "are_refused") rfl)
theorem Tp.g_pairs_towards (T : Tp K mg base) : mg "pairs_towards" = some (.ref (He.ga K "pairs_towards")) := He.glo_ok T.kin T.ns (T.c.fact 35 (f := .glo "pairs_towards") rfl)
theorem Tp.g_towards (T : Tp K mg base) : mg "towards" = some (.ref (He.ga K "towards")) := He.glo_ok T.kin T.ns (T.c.fact 36 (f := .glo "towards") rfl)
theorem Tp.g_heaviest_towards (T : Tp K mg base) : mg "heaviest_towards" = some (.ref (He.ga K "heaviest_towards")) := He.glo_ok T.kin T.ns (T.c.fact 37 (f := .glo "heaviest_towards") rfl)
theorem Tp.g_is_load_within (T : Tp K mg base) : mg "is_load_within" = some (.ref (He.ga K "is_load_within")) := He.glo_ok T.kin T.ns (T.c.fact 38 (f := .glo "is_load_within") rfl)
theorem Tp.g_let_at (T : Tp K mg base) : mg "let_at" = some (.ref (He.ga K "let_at")) := He.glo_ok T.kin T.ns (T.c.fact 39 (f := .glo "let_at") rfl)
theorem Tp.g_want_web_yard (T : Tp K mg base) : mg "want_web_yard" = some (.ref (He.ga K "want_web_yard")) := He.glo_ok T.kin T.ns (T.c.fact 40 (f := .glo "want_web_yard") rfl)
theorem Tp.g_is_at_most (T : Tp K mg base) : mg "is_at_most" = some (.ref (He.ga K "is_at_most")) := He.glo_ok T.kin T.ns (T.c.fact 41 (f := .glo "is_at_most") rfl)
theorem Tp.g_lets (T : Tp K mg base) : mg "lets" = some (.ref (He.ga K "lets")) := He.glo_ok T.kin T.ns (T.c.fact 42 (f := .glo "lets") rfl)
theorem Tp.g_loads_towards (T : Tp K mg base) : mg "loads_towards" = some (.ref (He.ga K "loads_towards")) := He.glo_ok T.kin T.ns (T.c.fact 43 (f := .glo "loads_towards") rfl)
theorem Tp.g_heaviest (T : Tp K mg base) : mg "heaviest" = some (.ref (He.ga K "heaviest")) := He.glo_ok T.kin T.ns (T.c.fact 44 (f := .glo "heaviest") rfl)
theorem Tp.g_law_pot (T : Tp K mg base) : mg "_law_pot" = some (.ref (He.ga K "_law_pot")) := He.glo_ok T.kin T.ns (T.c.fact 45 (f := .glo "_law_pot") rfl)
theorem Tp.g_law_draw (T : Tp K mg base) : mg "_law_draw" = some (.ref (He.ga K "_law_draw")) := He.glo_ok T.kin T.ns (T.c.fact 46 (f := .glo "_law_draw") rfl)
theorem Tp.g_law_pick (T : Tp K mg base) : mg "_law_pick" = some (.ref (He.ga K "_law_pick")) := He.glo_ok T.kin T.ns (T.c.fact 47 (f := .glo "_law_pick") rfl)
theorem Tp.g_law_mixed (T : Tp K mg base) : mg "_law_mixed" = some (.ref (He.ga K "_law_mixed")) := He.glo_ok T.kin T.ns (T.c.fact 48 (f := .glo "_law_mixed") rfl)
theorem Tp.g_law_lanes (T : Tp K mg base) : mg "_law_lanes" = some (.ref (He.ga K "_law_lanes")) := He.glo_ok T.kin T.ns (T.c.fact 49 (f := .glo "_law_lanes") rfl)
theorem Tp.g_law_renumbered (T : Tp K mg base) : mg "_law_renumbered" = some (.ref (He.ga K "_law_renumbered")) := He.glo_ok T.kin T.ns (T.c.fact 50 (f := .glo "_law_renumbered") rfl)
theorem Tp.g_law_beside (T : Tp K mg base) : mg "_law_beside" = some (.ref (He.ga K "_law_beside")) := He.glo_ok T.kin T.ns (T.c.fact 51 (f := .glo "_law_beside") rfl)
theorem Tp.g_law_yards (T : Tp K mg base) : mg "_law_yards" = some (.ref (He.ga K "_law_yards")) := He.glo_ok T.kin T.ns (T.c.fact 52 (f := .glo "_law_yards") rfl)
theorem Tp.g_law_pairs (T : Tp K mg base) : mg "_law_pairs" = some (.ref (He.ga K "_law_pairs")) := He.glo_ok T.kin T.ns (T.c.fact 53 (f := .glo "_law_pairs") rfl)
theorem Tp.g_law_book (T : Tp K mg base) : mg "_law_book" = some (.ref (He.ga K "_law_book")) := He.glo_ok T.kin T.ns (T.c.fact 54 (f := .glo "_law_book") rfl)
theorem Tp.g_law_many (T : Tp K mg base) : mg "_law_many" = some (.ref (He.ga K "_law_many")) := He.glo_ok T.kin T.ns (T.c.fact 55 (f := .glo "_law_many") rfl)
theorem Tp.g_law_stands (T : Tp K mg base) : mg "_law_stands" = some (.ref (He.ga K "_law_stands")) := He.glo_ok T.kin T.ns (T.c.fact 56 (f := .glo "_law_stands") rfl)
theorem Tp.g_law_more (T : Tp K mg base) : mg "_law_more" = some (.ref (He.ga K "_law_more")) := He.glo_ok T.kin T.ns (T.c.fact 57 (f := .glo "_law_more") rfl)
theorem Tp.g_law_standing (T : Tp K mg base) : mg "_law_standing" = some (.ref (He.ga K "_law_standing")) := He.glo_ok T.kin T.ns (T.c.fact 58 (f := .glo "_law_standing") rfl)
theorem Tp.g_law_towards (T : Tp K mg base) : mg "_law_towards" = some (.ref (He.ga K "_law_towards")) := He.glo_ok T.kin T.ns (T.c.fact 59 (f := .glo "_law_towards") rfl)
theorem Tp.g_law_heaviest (T : Tp K mg base) : mg "_law_heaviest" = some (.ref (He.ga K "_law_heaviest")) := He.glo_ok T.kin T.ns (T.c.fact 60 (f := .glo "_law_heaviest") rfl)
theorem Tp.g_law_right (T : Tp K mg base) : mg "_law_right" = some (.ref (He.ga K "_law_right")) := He.glo_ok T.kin T.ns (T.c.fact 61 (f := .glo "_law_right") rfl)
theorem Tp.g_law (T : Tp K mg base) : mg "law" = some (.ref (He.ga K "law")) := He.glo_ok T.kin T.ns (T.c.fact 62 (f := .glo "law") rfl)
theorem Tp.g_Country (T : Tp K mg base) : mg "Country" = some (.ref (He.ga K "Country")) := He.glo_ok T.kin T.ns (T.c.fact 63 (f := .glo "Country") rfl)
theorem Tp.c_Country (T : Tp K mg base) : Cls K (He.ga K "Country") := He.cls_ok (T.c.fact 64 (f := .cls "Country") rfl)
theorem Tp.m_Country (T : Tp K mg base) : Mk K (He.ga K "Country") (He.ma K (He.ga K "Country") "__init__") := He.mkr_ok (T.c.fact 65 (f := .mkr "Country") rfl)
theorem Tp.g_Web (T : Tp K mg base) : mg "Web" = some (.ref (He.ga K "Web")) := He.glo_ok T.kin T.ns (T.c.fact 66 (f := .glo "Web") rfl)
theorem Tp.c_Web (T : Tp K mg base) : Cls K (He.ga K "Web") := He.cls_ok (T.c.fact 67 (f := .cls "Web") rfl)
theorem Tp.m_Web (T : Tp K mg base) : Mk K (He.ga K "Web") (He.ma K (He.ga K "Web") "__init__") := He.mkr_ok (T.c.fact 68 (f := .mkr "Web") rfl)
theorem Tp.n_Country_own_lanes (T : Tp K mg base) : NoAttr K (He.ga K "Country") "own_lanes" := He.noat_ok (T.c.fact 69 (f := .noat "Country" "own_lanes") rfl)
theorem Tp.n_Country_own_ties (T : Tp K mg base) : NoAttr K (He.ga K "Country") "own_ties" := He.noat_ok (T.c.fact 70 (f := .noat "Country" "own_ties") rfl)
theorem Tp.n_Country_own_ahead (T : Tp K mg base) : NoAttr K (He.ga K "Country") "own_ahead" := He.noat_ok (T.c.fact 71 (f := .noat "Country" "own_ahead") rfl)
theorem Tp.n_Web_own_country (T : Tp K mg base) : NoAttr K (He.ga K "Web") "own_country" := He.noat_ok (T.c.fact 72 (f := .noat "Web" "own_country") rfl)
theorem Tp.n_Web_own_books (T : Tp K mg base) : NoAttr K (He.ga K "Web") "own_books" := He.noat_ok (T.c.fact 73 (f := .noat "Web" "own_books") rfl)
theorem Tp.i_MOST_YARDS (T : Tp K mg base) : ∃ u, mg "MOST_YARDS" = some u ∧ RelV (.int 7) u := by
  obtain ⟨t, e⟩ := He.int_ok T.kin T.ns (T.c.fact 74 (f := .int "MOST_YARDS" 7) rfl)
  exact ⟨_, e, t, rfl⟩
theorem Tp.i_MOST_LANES (T : Tp K mg base) : ∃ u, mg "MOST_LANES" = some u ∧ RelV (.int 4) u := by
  obtain ⟨t, e⟩ := He.int_ok T.kin T.ns (T.c.fact 75 (f := .int "MOST_LANES" 4) rfl)
  exact ⟨_, e, t, rfl⟩
theorem Tp.i_MOST_PLACES (T : Tp K mg base) : ∃ u, mg "MOST_PLACES" = some u ∧ RelV (.int 6) u := by
  obtain ⟨t, e⟩ := He.int_ok T.kin T.ns (T.c.fact 76 (f := .int "MOST_PLACES" 6) rfl)
  exact ⟨_, e, t, rfl⟩
theorem Tp.i_MOST_BOUNDS (T : Tp K mg base) : ∃ u, mg "MOST_BOUNDS" = some u ∧ RelV (.int 6) u := by
  obtain ⟨t, e⟩ := He.int_ok T.kin T.ns (T.c.fact 77 (f := .int "MOST_BOUNDS" 6) rfl)
  exact ⟨_, e, t, rfl⟩
theorem Tp.i_MOST_ALTERNATIVES (T : Tp K mg base) : ∃ u, mg "MOST_ALTERNATIVES" = some u ∧ RelV (.int 4) u := by
  obtain ⟨t, e⟩ := He.int_ok T.kin T.ns (T.c.fact 78 (f := .int "MOST_ALTERNATIVES" 4) rfl)
  exact ⟨_, e, t, rfl⟩
theorem Tp.f_isinstance (T : Tp K mg base) : mg "isinstance" = none := He.free_ok T.kin T.ns (T.c.fact 79 (f := .free "isinstance") rfl)
theorem Tp.f_int (T : Tp K mg base) : mg "int" = none := He.free_ok T.kin T.ns (T.c.fact 80 (f := .free "int") rfl)
theorem Tp.f_bool (T : Tp K mg base) : mg "bool" = none := He.free_ok T.kin T.ns (T.c.fact 81 (f := .free "bool") rfl)
theorem Tp.f_list (T : Tp K mg base) : mg "list" = none := He.free_ok T.kin T.ns (T.c.fact 82 (f := .free "list") rfl)
theorem Tp.f_tuple (T : Tp K mg base) : mg "tuple" = none := He.free_ok T.kin T.ns (T.c.fact 83 (f := .free "tuple") rfl)
theorem Tp.f_len (T : Tp K mg base) : mg "len" = none := He.free_ok T.kin T.ns (T.c.fact 84 (f := .free "len") rfl)
theorem Tp.f_all (T : Tp K mg base) : mg "all" = none := He.free_ok T.kin T.ns (T.c.fact 85 (f := .free "all") rfl)
theorem Tp.f_any (T : Tp K mg base) : mg "any" = none := He.free_ok T.kin T.ns (T.c.fact 86 (f := .free "any") rfl)
theorem Tp.f_min (T : Tp K mg base) : mg "min" = none := He.free_ok T.kin T.ns (T.c.fact 87 (f := .free "min") rfl)
theorem Tp.f_max (T : Tp K mg base) : mg "max" = none := He.free_ok T.kin T.ns (T.c.fact 88 (f := .free "max") rfl)
theorem Tp.f_range (T : Tp K mg base) : mg "range" = none := He.free_ok T.kin T.ns (T.c.fact 89 (f := .free "range") rfl)
theorem Tp.f_sorted (T : Tp K mg base) : mg "sorted" = none := He.free_ok T.kin T.ns (T.c.fact 90 (f := .free "sorted") rfl)
theorem Tp.f_set (T : Tp K mg base) : mg "set" = none := He.free_ok T.kin T.ns (T.c.fact 91 (f := .free "set") rfl)
theorem Tp.f_enumerate (T : Tp K mg base) : mg "enumerate" = none := He.free_ok T.kin T.ns (T.c.fact 92 (f := .free "enumerate") rfl)
theorem Tp.f_zip (T : Tp K mg base) : mg "zip" = none := He.free_ok T.kin T.ns (T.c.fact 93 (f := .free "zip") rfl)
theorem Tp.f_sum (T : Tp K mg base) : mg "sum" = none := He.free_ok T.kin T.ns (T.c.fact 94 (f := .free "sum") rfl)
theorem Tp.f_abs (T : Tp K mg base) : mg "abs" = none := He.free_ok T.kin T.ns (T.c.fact 95 (f := .free "abs") rfl)
theorem Tp.f_divmod (T : Tp K mg base) : mg "divmod" = none := He.free_ok T.kin T.ns (T.c.fact 96 (f := .free "divmod") rfl)
theorem Tp.f_repr (T : Tp K mg base) : mg "repr" = none := He.free_ok T.kin T.ns (T.c.fact 97 (f := .free "repr") rfl)
theorem Tp.ok0 (T : Tp K mg base) : ClsOk (gx K) 0 := ⟨T.c_Country, fun f h => by
  have h' : f ∈ (["own_lanes", "own_ties", "own_ahead"] : List Str) := h
  rcases List.mem_cons.mp h' with e | h'
  · rw [e]
    exact T.n_Country_own_lanes
  rcases List.mem_cons.mp h' with e | h'
  · rw [e]
    exact T.n_Country_own_ties
  rcases List.mem_cons.mp h' with e | h'
  · rw [e]
    exact T.n_Country_own_ahead
  · cases h'⟩
theorem Tp.ok1 (T : Tp K mg base) : ClsOk (gx K) 1 := ⟨T.c_Web, fun f h => by
  have h' : f ∈ (["own_country", "own_books"] : List Str) := h
  rcases List.mem_cons.mp h' with e | h'
  · rw [e]
    exact T.n_Web_own_country
  rcases List.mem_cons.mp h' with e | h'
  · rw [e]
    exact T.n_Web_own_books
  · cases h'⟩
theorem Tp.is0 (T : Tp K mg base) : IsOk K ((gx K).cs 0) := isB_ok (He.ba T.i).1
theorem Tp.is1 (T : Tp K mg base) : IsOk K ((gx K).cs 1) := isB_ok (He.ba T.i).2
end
theorem bt_isinstance : bootBuiltins "isinstance" = some (.builtin "isinstance") := by rfl
theorem bt_len : bootBuiltins "len" = some (.builtin "len") := by rfl
theorem bt_all : bootBuiltins "all" = some (.builtin "all") := by rfl
theorem bt_any : bootBuiltins "any" = some (.builtin "any") := by rfl
theorem bt_min : bootBuiltins "min" = some (.builtin "min") := by rfl
theorem bt_max : bootBuiltins "max" = some (.builtin "max") := by rfl
theorem bt_sorted : bootBuiltins "sorted" = some (.builtin "sorted") := by rfl
theorem bt_sum : bootBuiltins "sum" = some (.builtin "sum") := by rfl
theorem bt_abs : bootBuiltins "abs" = some (.builtin "abs") := by rfl
theorem bt_divmod : bootBuiltins "divmod" = some (.builtin "divmod") := by rfl
theorem bt_repr : bootBuiltins "repr" = some (.builtin "repr") := by rfl
theorem bt_set : bootBuiltins "set" = some (.type "set") := by rfl
theorem bt_int : bootBuiltins "int" = some (.type "int") := by rfl
theorem bt_bool : bootBuiltins "bool" = some (.type "bool") := by rfl
theorem bt_list : bootBuiltins "list" = some (.type "list") := by rfl
theorem bt_tuple : bootBuiltins "tuple" = some (.type "tuple") := by rfl
section
variable {X : Cx}
theorem cl_isi : CallR X (.builtin "isinstance") (rIsi X.K) := call_isi
theorem cl_isiT : CallR X (.builtin "isinstance") (rIsiT X.K) := call_isiT
theorem cl_len : CallR X (.builtin "len") (rLen2 X.K) := call_len_seq
theorem cl_max (hc : X.calm = true) : CallR X (.builtin "max") rMax2 := call_max2 hc
theorem cl_min (hc : X.calm = true) : CallR X (.builtin "min") rMin2 := call_min2 hc
theorem cl_abs : CallR X (.builtin "abs") rAbs1 := call_abs
theorem cl_int : CallR X (.type "int") rInt1 := call_int1
theorem cl_divmod : CallR X (.builtin "divmod") rDiv2 := call_divmod
theorem cl_list : CallR X (.type "list") (rListOf X.K) := call_list_of
theorem hu4 {k : Nat} {A : Around} (r : Room k A) : A.units + 64 < cLine := r.units
theorem hu5 {k : Nat} {A : Around} (r : Room k A) : A.units + 65 < cLine := by have := r.un; omega
end

/-! ## the last rules over data -/
def nbOp : DR2 := fun d e Q => match d, e with
  | .bl a, .bl b => Q (.bl (!decide (a = b)))
  | _, _ => False
def neS : DR2 := fun d e Q => match d, e with
  | .str x, .str y => Q (.bl (!decide (x = y)))
  | _, _ => False
def dIndex (a b : DTE) : DTE := fun δ Q => a δ fun x δ1 => match x with
  | .lst ds => b δ1 fun y δ2 => (OkD (.lst ds) ∧ OkD y) ∧ ∃ j z, ds[j]? = some z ∧ PyData.eqv z.py y.py = true ∧ (∀ m z', m < j → ds[m]? = some z' → PyData.eqv z'.py y.py = false) ∧ Q (.int (j : Nat)) δ2
  | _ => False
def dPotGet (i : Nat) (c : Bool) : DTE := fun δ Q => match δ[i]? with
  | some (.pot _ (some (a, b))) => Q (.int (match c with | true => b | false => a)) δ
  | _ => False
def gPot (i : Nat) (c : Bool) : DTG := fun d δ Q => match d, δ[i]? with
  | .int z, some (.pot p (some (a, b))) => Q (δ.set i (.pot p (some (match c with | true => (a, z) | false => (z, b)))))
  | _, _ => False
section
variable {G : Gx} {ta tb : TE} {a b : DTE}
theorem rr_nb : RefR2 G rNotB nbOp := fun F B H x y d e ex ff rd re DQ q Q k => by
  unfold nbOp at q
  split at q
  · rename_i u v
    exact ⟨u, v, rd, re, k (.bl (!decide (u = v))) _ B H (.refl ex) rfl q⟩
  · exact q.elim
theorem rr_neS : RefR2 G rNe neS := fun F B H x y d e ex ff rd re DQ q Q k => by
  unfold neS at q
  split at q
  · rename_i u v
    cases (show x = .str u from rd)
    cases (show y = .str v from re)
    refine ⟨rfl, k (.bl (!decide (u = v))) _ B H (.refl ex) ?_ q⟩
    show V.bl (!decide (V.str u = V.str v)) = V.bl (!decide (u = v))
    by_cases h : u = v
    · rw [h, decide_eq_true rfl, decide_eq_true rfl]
    · rw [decide_eq_false h, decide_eq_false fun z => h (V.str.inj z)]
  · exact q.elim
theorem ref_index (ha : RefE G ta a) (hb : RefE G tb b) : RefE G (tBM G.K "list" (rIndexD G.K) ta (tCons tb tNil)) (dIndex a b) := fun F O δ σ B H m DQ q Q k =>
  ha F O δ σ B H m _ q _ fun x v δ1 B1 H1 m1 g1 r1 q1 => by
    cases x with
    | lst ds =>
      obtain ⟨p, xs, e1, e2, e3⟩ := r1
      subst e1
      refine ⟨.inl ⟨rfl, xs, .inl (.inl (m1.ex _ _ e2))⟩, hb F O δ1 σ B1 H1 m1 _ q1 _ fun y u δ2 B2 H2 m2 g2 r2 q2 => ?_⟩
      obtain ⟨⟨o1, o2⟩, j, z, h1, h2, h3, q3⟩ := q2
      exact ⟨p, u, y.py, D.pys ds, j, z.py, rfl, rfl, Rep.dp m2.ex (.lst ds) (.ref p) o1.fl ⟨p, xs, rfl, g2.eb _ _ e2, Reps.mono g2.eb _ _ e3⟩, Rep.dp m2.ex y u o2.fl r2, o1.sh, o2.sh, by rw [pys_map, List.getElem?_map, h1]; rfl, h2, fun i z' hi hz => by
        rw [pys_map, List.getElem?_map] at hz
        cases hd : ds[i]? with
        | none =>
          rw [hd] at hz
          cases hz
        | some w =>
          rw [hd] at hz
          cases hz
          exact h3 i w hi hd, k (.int (j : Nat)) _ δ2 B2 H2 m2 (g1.trans g2) rfl q3⟩
    | _ => exact q1.elim
theorem ref_potGet0 {i : Nat} : RefE G (tOp (rIx G.K) (tVar i) (tC (.int 0))) (dPotGet i false) := fun F O δ σ B H m DQ q Q k => by
  unfold dPotGet at q
  split at q
  · rename_i p a b e
    obtain ⟨v, hv, x, y, e1, e2, e3, e4, e5, e6, e7⟩ := m.ok i _ e
    subst e1 e6 e7
    exact ⟨.ref p, hv, .inl ⟨p, _, 0, .int x, rfl, rfl, .inl (.inl e5), rfl, k (.int x) _ δ B H m (.refl O B H) rfl q⟩⟩
  · exact q.elim
theorem ref_potGet1 {i : Nat} : RefE G (tOp (rIx G.K) (tVar i) (tC (.int 1))) (dPotGet i true) := fun F O δ σ B H m DQ q Q k => by
  unfold dPotGet at q
  split at q
  · rename_i p a b e
    obtain ⟨v, hv, x, y, e1, e2, e3, e4, e5, e6, e7⟩ := m.ok i _ e
    subst e1 e6 e7
    exact ⟨.ref p, hv, .inl ⟨p, _, 1, .int y, rfl, rfl, .inl (.inl e5), rfl, k (.int y) _ δ B H m (.refl O B H) rfl q⟩⟩
  · exact q.elim
theorem rg_pot0 {i : Nat} : RefG G (gSub (tVar i) (tC (.int 0)) rSetL) (gPot i false) := fun F O δ σ B H m d v r DQ q Q k => by
  unfold gPot at q
  split at q
  · rename_i z p a b e
    obtain ⟨w, hw, x, y, e1, e2, e3, e4, e5, e6, e7⟩ := m.ok i _ e
    subst e1 e6 e7
    cases (show v = .int z from r)
    obtain ⟨m2, g2⟩ := m.own_upd (t := .pot p (some (z, y))) (o := .lst [.int z, .int y]) e rfl hw ⟨z, y, rfl, e2, e3, e4, upd_same, rfl, rfl⟩ rfl
    exact ⟨.ref p, hw, p, _, 0, 0, rfl, rfl, e5, rfl, k _ _ _ _ m2 g2 q⟩
  · exact q.elim
theorem rg_pot1 {i : Nat} : RefG G (gSub (tVar i) (tC (.int 1)) rSetL) (gPot i true) := fun F O δ σ B H m d v r DQ q Q k => by
  unfold gPot at q
  split at q
  · rename_i z p a b e
    obtain ⟨w, hw, x, y, e1, e2, e3, e4, e5, e6, e7⟩ := m.ok i _ e
    subst e1 e6 e7
    cases (show v = .int z from r)
    obtain ⟨m2, g2⟩ := m.own_upd (t := .pot p (some (x, z))) (o := .lst [.int x, .int z]) e rfl hw ⟨x, z, rfl, e2, e3, e4, upd_same, rfl, rfl⟩ rfl
    exact ⟨.ref p, hw, p, _, 1, 1, rfl, rfl, e5, rfl, k _ _ _ _ m2 g2 q⟩
  · exact q.elim
end
abbrev rLt : R2 := rI0 fun i j => .bl (decide (i < j))
abbrev rLe : R2 := rI0 fun i j => .bl (decide (i ≤ j))
abbrev rGt : R2 := rI0 fun i j => .bl (decide (j < i))
abbrev rGe : R2 := rI0 fun i j => .bl (decide (j ≤ i))
abbrev rAdd : R2 := rI0 fun i j => .int (i + j)
abbrev rSub : R2 := rI0 fun i j => .int (i - j)
abbrev rMul : R2 := rI CMul fun i j => .int (i * j)
abbrev rMod : R2 := rI (fun _ j => 0 < j) fun i j => .int (i % j)
abbrev rFd : R2 := rI CDiv fun i j => .int (i / j)
abbrev rPw : R2 := rI CPow fun i j => .int (i ^ j.toNat)
abbrev cLt : DR2 := cOp fun i j => decide (i < j)
abbrev cLe : DR2 := cOp fun i j => decide (i ≤ j)
abbrev cGt : DR2 := cOp fun i j => decide (j < i)
abbrev cGe : DR2 := cOp fun i j => decide (j ≤ i)
abbrev iAdd : DR2 := iOp0 fun i j => i + j
abbrev iSub : DR2 := iOp0 fun i j => i - j
abbrev iMul : DR2 := iOp CMul fun i j => i * j
abbrev iMod : DR2 := iOp (fun _ j => 0 < j) fun i j => i % j
abbrev iFd : DR2 := iOp CDiv fun i j => i / j
abbrev iPw : DR2 := iOp CPow fun i j => i ^ j.toNat
def dFldV (k i n : Nat) : DTE := fun δ Q => dFldK k δ i ∧ dFld i n δ Q
def dFldS (k i n : Nat) (a : DTE) : DTS := fun E δ => a δ fun d δ1 => match δ1[i]? with
  | some (.ins p k' ds) => (k' = k ∧ ds.length = n) ∧ E.nx (δ1.set i (.ins p k' (ds ++ [d])))
  | _ => False
section
variable {G : Gx} {ta : TE} {a : DTE}
theorem ref_fldV {i n k : Nat} {f : Str} (C : ClsOk G k) (hf : (fln k)[n]? = some f) : RefE G (tFld G.K (tVar i) f) (dFldV k i n) := ref_fld C hf
theorem rs_fldS {i n k : Nat} {f : Str} (C : ClsOk G k) (hf : (fln k)[n]? = some f) (ha : RefE G ta a) : RefS G (sFld G.K (tVar i) ta f) (dFldS k i n a) := rs_fldSet C hf ha
theorem gPot_ex {i : Nat} {c : Bool} : ∀ d δ Q, gPot i c d δ Q → ∃ δ', Q δ' := fun d δ Q q => by
  unfold gPot at q
  split at q
  · exact ⟨_, q⟩
  · exact q.elim
theorem dVar_ex {i : Nat} : ∀ δ Q, dVar i δ Q → ∃ d δ', Q d δ' := fun δ Q q => by
  unfold dVar at q
  split at q
  · exact ⟨_, _, q⟩
  · exact ⟨_, _, q⟩
  · exact q.elim
end
end K26
set_option Elab.async false
set_option linter.all false
set_option maxRecDepth 100000
set_option maxHeartbeats 1000000
namespace K26
open PySem PySem.Spec PyProof.Rows L2

/-! ## three at once, the last its own -/
def dPar3 (i j l : Nat) (a b : DTE) (c : DTV) : DTS := fun E δ => a δ fun d δ1 => b δ1 fun e δ2 => c δ2 fun s δ3 => putS i (.dat d) δ3 fun δ4 => putS j (.dat e) δ4 fun δ5 => putS l s δ5 E.nx
section
variable {G : Gx} {ta tb tc : TE} {a b : DTE} {c : DTV}
theorem rs_par3 {i j l : Nat} (hil : i ≠ l) (hjl : j ≠ l) (ha : RefE G ta a) (hb : RefE G tb b) (hc : RefV G tc c) : RefS G (tPar3 i j l (tCons ta (tCons tb (tCons tc tNil)))) (dPar3 i j l a b c) := fun F O δ σ B H m E q N e =>
  ha F O δ σ B H m _ q _ fun d v δ1 B1 H1 m1 g1 r1 q1 => hb F O δ1 σ B1 H1 m1 _ q1 _ fun d2 v2 δ2 B2 H2 m2 g2 r2 q2 => hc F O δ2 σ B2 H2 m2 _ q2 _ fun s w δ3 B3 H3 m3 g3 k3 f3 q3 => by
    refine ⟨v, v2, w, rfl, ?_⟩
    obtain ⟨i1, q4⟩ := putS_inv q3
    obtain ⟨j1, q5⟩ := putS_inv q4
    obtain ⟨l1, q6⟩ := putS_inv q5
    have m4 := m3.put i1 (s := .dat d) ⟨v, rfl, Rep.mono (g2.eb.trans g3.eb) _ _ r1⟩ fun o => nomatch o
    have m5 := m4.put j1 (s := .dat d2) ⟨v2, rfl, Rep.mono g3.eb _ _ r2⟩ fun o => nomatch o
    refine e.nx _ _ _ _ (m5.put l1 k3 fun o => ?_) ((g1.trans g2).trans g3) q6
    obtain ⟨p, e1, _, e3⟩ := f3 o
    refine ⟨p, e1, fun n u hu u1 z => ?_⟩
    by_cases hj : j = n
    · subst hj
      rw [List.getElem?_set_self j1] at hu
      cases hu
      cases u1
    · rw [List.getElem?_set_ne hj] at hu z
      by_cases hi : i = n
      · subst hi
        rw [List.getElem?_set_self i1] at hu
        cases hu
        cases u1
      · rw [List.getElem?_set_ne hi] at hu z
        exact e3 n u hu u1 z
end

/-! ## statements whose stores are known -/
structure EOkW (W : List Nat) (G : Gx) (F O : Addr → Prop) (σ : L2.St) (B H : Hp) (E : DEnds) (N : Ends) : Prop where
  nx : ∀ δ σ' B' H', Mat G F O δ σ' B' H' → Go O B H B' H' → wipe σ' W = wipe σ W → E.nx δ → N.nx σ' H'
  rt : ∀ d v δ σ' B' H', Mat G F O δ σ' B' H' → Go O B H B' H' → Rep G F B' d v → E.rt d δ → N.rt v H'
  bk : ∀ δ σ' B' H', Mat G F O δ σ' B' H' → Go O B H B' H' → wipe σ' W = wipe σ W → E.bk δ → N.bk σ' H'
  ct : ∀ δ σ' B' H', Mat G F O δ σ' B' H' → Go O B H B' H' → wipe σ' W = wipe σ W → E.ct δ → N.ct σ' H'
theorem EOkW.go {W : List Nat} {G : Gx} {F O : Addr → Prop} {σ σ1 : L2.St} {B H B1 H1 : Hp} {E : DEnds} {N : Ends} (e : EOkW W G F O σ B H E N) (g : Go O B H B1 H1) (w : wipe σ1 W = wipe σ W) : EOkW W G F O σ1 B1 H1 E N :=
  ⟨fun δ σ' B' H' m g' w' q => e.nx δ σ' B' H' m (g.trans g') (w'.trans w) q, fun d v δ σ' B' H' m g' r q => e.rt d v δ σ' B' H' m (g.trans g') r q,
    fun δ σ' B' H' m g' w' q => e.bk δ σ' B' H' m (g.trans g') (w'.trans w) q, fun δ σ' B' H' m g' w' q => e.ct δ σ' B' H' m (g.trans g') (w'.trans w) q⟩
def RefW (G : Gx) (W : List Nat) (ts : TS) (ds : DTS) : Prop := ∀ (F O : Addr → Prop) (δ : DS) (σ : L2.St) (B H : Hp), Mat G F O δ σ B H → ∀ E, ds E δ → ∀ N, EOkW W G F O σ B H E N → ts N σ H
section
variable {G : Gx} {W : List Nat} {tt tu : TS} {t u : DTS} {ta tb te : TE} {a b : DTE} {tc : TT} {c : DTT}
theorem rw_next : RefW G W tNext dNext := fun F O δ σ B H m E q N e => e.nx δ σ B H m (.refl O B H) rfl q
theorem rw_seq (ht : RefW G W tt t) (hu : RefW G W tu u) : RefW G W (tSeq tt tu) (dSeq t u) := fun F O δ σ B H m E q N e =>
  ht F O δ σ B H m _ q _ ⟨fun δ1 σ1 B1 H1 m1 g1 w1 q1 => hu F O δ1 σ1 B1 H1 m1 E q1 N (e.go g1 w1), e.rt, e.bk, e.ct⟩
theorem rw_if (hc : RefT G tc c) (ht : RefW G W tt t) (hu : RefW G W tu u) : RefW G W (tIfS tc tt tu) (dIf c t u) := fun F O δ σ B H m E q N e =>
  hc F O δ σ B H m _ q _ fun k δ1 B1 H1 m1 g1 q1 => by
    cases k with
    | true => exact iteT (ht F O δ1 σ B1 H1 m1 E q1 N (e.go g1 rfl))
    | false => exact iteF (hu F O δ1 σ B1 H1 m1 E q1 N (e.go g1 rfl))
theorem rw_ret (ha : RefE G ta a) : RefW G W (tRet ta) (dRet a) := fun F O δ σ B H m E q N e =>
  ha F O δ σ B H m _ q _ fun d v δ1 B1 H1 m1 g1 r1 q1 => e.rt d v δ1 σ B1 H1 m1 g1 r1 q1
theorem rw_set {i : Nat} {v : DTV} (hi : i ∈ W) (ha : RefV G ta v) : RefW G W (tAsg ta (gName i)) (dSet i v) := fun F O δ σ B H m E q N e =>
  ha F O δ σ B H m _ q _ fun s x δ1 B1 H1 m1 g1 k1 f1 q1 => by
    obtain ⟨h1, h2⟩ := putS_inv q1
    exact e.nx _ _ _ _ (m1.put h1 k1 fun o => by
      obtain ⟨p, e1, _, e3⟩ := f1 o
      exact ⟨p, e1, e3⟩) g1 (wipe_set hi) h2
theorem rw_par {i j : Nat} {va vb : DTV} (hi : i ∈ W) (hj : j ∈ W) (hij : i ≠ j) (ha : RefV G ta va) (hb : RefV G tb vb) : RefW G W (tPar i j (tCons ta (tCons tb tNil))) (dPar i j va vb) := fun F O δ σ B H m E q N e =>
  par_core hij ha hb m q fun v w δ' B' H' m' g' q' => ⟨v, w, rfl, e.nx _ _ _ _ m' g' ((wipe_set hj).trans (wipe_set hi)) q'⟩
theorem rw_for {wi : TI} {dw : DTI} {g : TG} {dg : DTG} {tb : TS} {bd : DTS} {vs : List Nat} (hv : ∀ v ∈ vs, v ∈ W) (hi : RefI G wi dw) (hg : RefN G vs g dg) (hb : RefW G W tb bd) : RefW G W (tFor wi g tb) (dFor dw dg bd) := fun F O δ σ B H m E q N e =>
  hi F O δ σ B H m _ q _ fun J n Wt Y ds δ1 B1 H1 w hn m1 g1 hW hY q1 => by
    obtain ⟨Z, z0, zs, zd⟩ := q1
    refine for_it w (fun i σ2 H2 => wipe σ2 W = wipe σ W ∧ ∃ δ2 B2, Mat G F O δ2 σ2 B2 H2 ∧ Go O B1 H1 B2 H2 ∧ Z (ds.drop i) δ2) ⟨rfl, δ1, B1, m1, .refl O B1 H1, z0⟩ ?_ ?_ ?_
    · rintro i σ2 H2 _ ⟨_, δ2, B2, m2, g2, _⟩
      exact hW B2 H2 g2.eb m2.ex
    · rintro i x σ2 H2 H3 hin ⟨w2, δ2, B2, m2, g2, q2⟩ hy
      obtain ⟨B3, d, hd, n3, r3⟩ := hY i x B2 H2 H3 hin g2.eb m2.ex m2.ff hy
      have ed : ds.drop i = d :: ds.drop (i + 1) := by
        obtain ⟨h1, h2⟩ := List.getElem?_eq_some_iff.mp hd
        rw [List.drop_eq_getElem_cons h1, h2]
      rw [ed] at q2
      have q2 := zs d _ δ2 q2
      have m3 := m2.nw n3
      have g3 : Go O B1 H1 B3 H3 := g2.trans n3.go
      refine hg F O δ2 σ2 B3 H3 m3 d x r3 _ q2 _ fun δ4 σ4 m4 w4 q4 => ?_
      have w5 : wipe σ4 W = wipe σ W := (wipe_more hv w4).trans w2
      have G1 : Go O B H B3 H3 := g1.trans g3
      exact hb F O δ4 σ4 B3 H3 m4 _ q4 _ ⟨fun δ5 σ5 B5 H5 m5 g5 w6 q5 => ⟨w6.trans w5, δ5, B5, m5, g3.trans g5, q5⟩, fun d v δ5 σ5 B5 H5 m5 g5 r5 q5 => e.rt d v δ5 σ5 B5 H5 m5 (G1.trans g5) r5 q5,
        fun δ5 σ5 B5 H5 m5 g5 w6 q5 => e.nx δ5 σ5 B5 H5 m5 (G1.trans g5) (w6.trans w5) q5, fun δ5 σ5 B5 H5 m5 g5 w6 q5 => ⟨w6.trans w5, δ5, B5, m5, g3.trans g5, q5⟩⟩
    · rintro σ2 H2 ⟨w2, δ2, B2, m2, g2, q2⟩
      rw [← hn, List.drop_length] at q2
      exact e.nx δ2 σ2 B2 H2 m2 (g1.trans g2) w2 (zd δ2 q2)
where
  wipe_at {τ : L2.St} {i : Nat} : ∀ {us : List Nat}, i ∈ us → (wipe τ us)[i]? = if i < τ.length then some none else none
    | u :: us, h => by
      show ((wipe τ us).set u none)[i]? = _
      rw [List.getElem?_set]
      by_cases z : u = i
      · rw [if_pos z, wipe_len, z]
      · rw [if_neg z]
        exact wipe_at ((List.mem_cons.mp h).resolve_left fun y => z y.symm)
  wipe_more {σ τ : L2.St} {vs W : List Nat} (hv : ∀ v ∈ vs, v ∈ W) (h : wipe σ vs = wipe τ vs) : wipe σ W = wipe τ W := by
    have hl : σ.length = τ.length := by
      have := congrArg List.length h
      rw [wipe_len, wipe_len] at this
      exact this
    refine List.ext_getElem? fun i => ?_
    by_cases hi : i ∈ W
    · rw [wipe_at hi, wipe_at hi, hl]
    · have hi2 : i ∉ vs := fun z => hi (hv i z)
      rw [wipe_out hi, wipe_out hi, ← wipe_out (σ := σ) hi2, h, wipe_out hi2]
end
theorem wipe_keep {σ σ' : L2.St} {W : List Nat} (h : wipe σ' W = wipe σ W) {i : Nat} (hi : i ∉ W) : σ'[i]? = σ[i]? := by
  rw [← wipe_out (σ := σ') hi, h, wipe_out hi]

/-! ## what is made within a turn is changed at its end -/
def Sl.old : Sl → Bool
  | .dat d => d.old
  | _ => true
def plainS : Sl → Bool
  | .no => true
  | .dat d => d.old
  | _ => false
theorem Mat.toF {G : Gx} {F F' O : Addr → Prop} {δ : DS} {σ : L2.St} {B H : Hp} {p : Addr} {n : Option (Int × Int)} (m : Mat G F O (.pot p n :: δ) σ B H) (ho : δ.all plainS = true) (ff : ∀ a, H a = none → F' a) (fp : F' p) : Mat G F' O (.pot p n :: δ) σ B H := by
  refine ⟨m.ex, m.fo, ff, m.len, fun i s hs => ?_, m.dj⟩
  obtain ⟨v, hv, k⟩ := m.ok i s hs
  refine ⟨v, hv, ?_⟩
  cases i with
  | zero =>
    cases hs
    obtain ⟨x, y, e1, e2, e3, e4, e5, e6⟩ := k
    exact ⟨x, y, e1, e2, e3, fp, e5, e6⟩
  | succ i =>
    have hp : plainS s = true := List.all_eq_true.mp ho s (List.mem_of_getElem? (i := i) hs)
    cases s with
    | no => trivial
    | dat d =>
      obtain ⟨x, e1, r⟩ := k
      exact ⟨x, e1, Rep.anyF d x hp r⟩
    | _ => cases hp
def isL (H : Hp) (p : Addr) : Prop := ∃ xs : List V, H p = some (.lst xs) ∧ xs.length < 90000
theorem isL.upd {H : Hp} {p q : Addr} {ys : List V} (h : isL H p) (hy : ys.length < 90000) : isL (L2.upd H q (.lst ys)) p := by
  by_cases z : p = q
  · subst z
    exact ⟨ys, upd_same, hy⟩
  · obtain ⟨xs, h1, h2⟩ := h
    exact ⟨xs, by rw [upd_ne z]; exact h1, h2⟩
/-- W: what the first part stores; it leaves at f a list whose first is a list, at g a list, both new -/
def dTurnN (W : List Nat) (f g : Nat) (mt post : DTS) (p : Addr) (δ : DS) (E : DEnds) (δ' : DS) : Prop :=
  (∃ e0 es hs, δ'[0]? = some (.pot p none) ∧ δ'[f]? = some (.dat (.new (.new e0 :: es))) ∧ δ'[g]? = some (.dat (.new hs)) ∧ e0.length < 1000 ∧ es.length < 2000 ∧ hs.length < 2000) ∧ mt { nx := post E, rt := fun _ _ => False } (wipeD δ W)
def dTurn (W : List Nat) (f g : Nat) (pre mt post : DTS) : DTS := fun E δ => ∃ p δr, δ = .pot p none :: δr ∧ δr.all plainS = true ∧ pre { nx := dTurnN W f g mt post p δ E, rt := fun _ _ => False } δ
section
variable {G : Gx} {W : List Nat} {f g : Nat} {tp tm tq : TS} {pre mt post : DTS} {V2 : List Nat}
def tAp (K : PySem.W.Frag) (f : Nat) : TS := tDrop (tBM K "list" rAppend (tVar f) (tCons (tC .non) tNil))
def tAp0 (K : PySem.W.Frag) (f : Nat) : TS := tDrop (tBM K "list" rAppend (tOp (rIx K) (tVar f) (tC (.int 0))) (tCons (tC .non) tNil))
theorem rs_turn (h0 : 0 ∉ W) (hfW : f ∈ W) (hgW : g ∈ W) (hf : f ∉ V2) (hg : g ∉ V2) (hp : RefW G W tp pre) (hm : RefW G V2 tm mt) (hq : RefS G tq post) :
    RefS G (tSeq tp (tSeq tm (tSeq (tAp0 G.K f) (tSeq (tAp G.K f) (tSeq (tAp G.K g) tq))))) (dTurn W f g pre mt post) := fun F O δ σ B H m E q N e => by
  obtain ⟨pp, δr, eδ, hold, q⟩ := q
  subst eδ
  have m0 := m.toF (F' := fun a => H a = none ∨ a = pp) hold (fun a h => .inl h) (.inr rfl)
  refine hp _ O _ σ B H m0 _ q _ ⟨fun δ' σ1 B1 H1 m1 g1 w1 q1 => ?_, fun _ _ _ _ _ _ _ _ _ z => z.elim, fun _ _ _ _ _ _ _ z => z.elim, fun _ _ _ _ _ _ _ z => z.elim⟩
  obtain ⟨⟨e0, es, hs, hd0, hdf, hdg, l0, l1, l2⟩, q1⟩ := q1
  -- the objects
  obtain ⟨v0, hv0, x0, y0, f1, f2, f3, f4, f5, f6⟩ := m1.ok 0 _ hd0
  obtain ⟨v, hv, x, ev, pF, xs, ex1, hF1, hb1, r1⟩ := m1.ok f _ hdf
  subst ev ex1
  obtain ⟨v2, xr, exs, ⟨p0, ys, ex2, hF2, hb2, r2⟩, rr⟩ := r1
  subst exs ex2
  obtain ⟨v3, hv3, x3, ev3, pG, zs, ex3, hF3, hb3, r3⟩ := m1.ok g _ hdg
  subst ev3 ex3
  have npp : ∀ a o, B1 a = some o → a ≠ pp := fun a o h z => by
    rw [z, f2] at h
    cases h
  have frF : H pF = none := hF1.resolve_right (npp _ _ hb1)
  have fr0 : H p0 = none := hF2.resolve_right (npp _ _ hb2)
  have frG : H pG = none := hF3.resolve_right (npp _ _ hb3)
  have exB : Ex B H1 := fun a o h => m1.ex _ _ (g1.eb _ _ h)
  have LF : H1 pF = some (.lst (.ref p0 :: xr)) := m1.ex _ _ hb1
  have lF : isL H1 pF := ⟨_, LF, by rw [List.length_cons, rr.length]; omega⟩
  have L0 : isL H1 p0 := ⟨_, m1.ex _ _ hb2, by rw [r2.length]; omega⟩
  have LG : isL H1 pG := ⟨_, m1.ex _ _ hb3, by rw [r3.length]; omega⟩
  have bF : B pF = none := m.ex.none frF
  have b0 : B p0 = none := m.ex.none fr0
  have bG : B pG = none := m.ex.none frG
  have nn : ∀ {a}, isL H1 a → H1 a ≠ none := fun ⟨_, h, _⟩ => ne_none h
  -- the state over the old part
  have hlen : (wipeD (.pot pp none :: δr) W).length = σ1.length := by
    rw [wipeD_len, m.len]
    have := congrArg List.length w1
    rw [wipe_len, wipe_len] at this
    exact this.symm
  have m2 : Mat G F (fun a => O a ∧ a ≠ pF ∧ a ≠ p0 ∧ a ≠ pG) (wipeD (.pot pp none :: δr) W) σ1 B H1 := by
    have slot : ∀ i s, (wipeD (.pot pp none :: δr) W)[i]? = some s → s = .no ∨ (i ∉ W ∧ (Sl.pot pp none :: δr)[i]? = some s) := fun i s h => by
      by_cases hi : i ∈ W
      · exact .inl (wipeD_in hi h)
      · exact .inr ⟨hi, by rw [wipeD_out hi] at h; exact h⟩
    refine ⟨exB, fun a h => ⟨m.fo a (g1.al a h), fun z => nn lF (z ▸ h), fun z => nn L0 (z ▸ h), fun z => nn LG (z ▸ h)⟩, fun a h => m.ff a (g1.al a h), hlen, fun i s h => ?_, fun i j s t a hij h h' u u' => ?_⟩
    · rcases slot i s h with z | ⟨hi, h2⟩
      · subst z
        have hl : i < σ1.length := by rw [← hlen]; exact (List.getElem?_eq_some_iff.mp h).1
        exact ⟨_, List.getElem?_eq_getElem hl, trivial⟩
      · obtain ⟨w, hw, k⟩ := m.ok i s h2
        refine ⟨w, by rw [wipe_keep w1 hi]; exact hw, ?_⟩
        cases i with
        | zero =>
          cases h2
          obtain ⟨x1, y1, k1, k2, k3, k4, k5, k6⟩ := k
          have ez : v0 = w := by
            rw [wipe_keep w1 hi, hw] at hv0
            exact (Option.some.inj hv0).symm
          exact ⟨x0, y0, k1, k2, ⟨k3, fun (z : pp = pF) => (by rw [z, frF] at k5; cases k5), fun (z : pp = p0) => (by rw [z, fr0] at k5; cases k5), fun (z : pp = pG) => (by rw [z, frG] at k5; cases k5)⟩, k4, f5, f6⟩
        | succ i =>
          have hp : plainS s = true := List.all_eq_true.mp hold s (List.mem_of_getElem? (i := i) h2)
          cases s with
          | no => trivial
          | dat d => exact k
          | _ => cases hp
    · have z0 : ∀ i s, (wipeD (.pot pp none :: δr) W)[i]? = some s → s.isOwn = true → i = 0 := fun i s h u => by
        rcases slot i s h with z | ⟨hi, h2⟩
        · subst z
          cases u
        · cases i with
          | zero => rfl
          | succ i =>
            have hp : plainS s = true := List.all_eq_true.mp hold s (List.mem_of_getElem? (i := i) h2)
            cases s with
            | no => cases u
            | dat d => cases u
            | _ => cases hp
      exact absurd ((z0 i s h u).trans (z0 j t h' u').symm) hij
  have gB : Go O B H B H1 := ⟨.refl B, fun a o h hb hO => ⟨(g1.kp a o h hb hO).1, hb⟩, g1.al⟩
  refine hm F _ _ σ1 B H1 m2 _ q1 _ ⟨fun δ3 σ3 B3 H3 m3 g3 w3 q3 => ?_, fun _ _ _ _ _ _ _ _ _ z => z.elim, fun _ _ _ _ _ _ _ z => z.elim, fun _ _ _ _ _ _ _ z => z.elim⟩
  have kf : σ3[f]? = some (some (.ref pF)) := by rw [wipe_keep w3 hf]; exact hv
  have kg : σ3[g]? = some (some (.ref pG)) := by rw [wipe_keep w3 hg]; exact hv3
  have keep : ∀ {a}, isL H1 a → B a = none → (a = pF ∨ a = p0 ∨ a = pG) → isL H3 a ∧ B3 a = none := fun {a} ⟨ws, h, hl⟩ hb ha => by
    obtain ⟨k1, k2⟩ := g3.kp a _ h hb fun z => by
      rcases ha with y | y | y
      · exact z.2.1 y
      · exact z.2.2.1 y
      · exact z.2.2.2 y
    exact ⟨⟨ws, k1, hl⟩, k2⟩
  have KF : H3 pF = some (.lst (.ref p0 :: xr)) := (g3.kp pF _ LF bF fun z => z.2.1 rfl).1
  obtain ⟨lF3, bF3⟩ := keep lF bF (.inl rfl)
  obtain ⟨⟨y3, h03, l03⟩, b03⟩ := keep L0 b0 (.inr (.inl rfl))
  obtain ⟨LG3, bG3⟩ := keep LG bG (.inr (.inr rfl))
  have o0 : ¬ (fun a => O a ∧ a ≠ pF ∧ a ≠ p0 ∧ a ≠ pG) p0 := fun z => z.2.2.1 rfl
  have oF : ¬ (fun a => O a ∧ a ≠ pF ∧ a ≠ p0 ∧ a ≠ pG) pF := fun z => z.2.1 rfl
  have oG : ¬ (fun a => O a ∧ a ≠ pF ∧ a ≠ p0 ∧ a ≠ pG) pG := fun z => z.2.2.2 rfl
  have sm : ∀ {n : Nat}, n < 90000 → n < sizeLine := fun h => ap_small (by omega)
  have ll : ∀ {ws : List V}, ws.length < 1000 + 1000 → (ws ++ [V.non]).length < 90000 := fun h => by rw [List.length_append, List.length_singleton]; omega
  -- the three stores
  have m4 := m3.side o0 b03 (o := .lst (y3 ++ [V.non]))
  generalize hH4 : L2.upd H3 p0 (.lst (y3 ++ [V.non])) = H4 at m4
  have y3s : (y3 ++ [V.non]).length < 90000 := by
    have : y3.length = ys.length := by
      have h := (g3.kp p0 _ (m1.ex _ _ hb2) b0 fun z => z.2.2.1 rfl).1
      rw [h] at h03
      cases h03
      rfl
    rw [List.length_append, List.length_singleton, this, r2.length]
    omega
  obtain ⟨wF, hwF, lwF⟩ : isL H4 pF := by rw [← hH4]; exact lF3.upd y3s
  have wFs : (wF ++ [V.non]).length < 90000 := by
    have : wF.length ≤ 2001 := by
      by_cases z : pF = p0
      · rw [← hH4, z, upd_same] at hwF
        cases hwF
        have : y3.length = ys.length := by
          have h := (g3.kp p0 _ (m1.ex _ _ hb2) b0 fun z => z.2.2.1 rfl).1
          rw [h] at h03
          cases h03
          rfl
        rw [List.length_append, List.length_singleton, this, r2.length]
        omega
      · rw [← hH4, upd_ne z, KF] at hwF
        cases hwF
        rw [List.length_cons, rr.length]
        omega
    rw [List.length_append, List.length_singleton]
    omega
  have m5 := m4.side oF bF3 (o := .lst (wF ++ [V.non]))
  have LG4 : isL H4 pG := by rw [← hH4]; exact LG3.upd y3s
  generalize hH5 : L2.upd H4 pF (.lst (wF ++ [V.non])) = H5 at m5
  obtain ⟨wG, hwG, lwG⟩ : isL H5 pG := by rw [← hH5]; exact LG4.upd wFs
  have m6 := m5.side oG bG3 (o := .lst (wG ++ [V.non]))
  generalize hH6 : L2.upd H5 pG (.lst (wG ++ [V.non])) = H6 at m6
  have m7 : Mat G F O δ3 σ3 B3 H6 := m6.setO (fun a h => (m6.fo a h).1) fun i s a hs ho hv => by
    obtain ⟨v, hv2, k⟩ := m6.ok i s hs
    rw [hv] at hv2
    cases hv2
    exact (k.own_at ho rfl).2.1.1
  have Op : ∀ {a}, H a = none → O a := fun h => m.fo _ h
  have go : Go O B H B3 H6 := by
    have ga : Go O B H B3 H3 := gB.trans (g3.weak fun a h => h.1)
    refine ⟨ga.eb, fun a o h hb hO => ?_, fun a h => ?_⟩
    · obtain ⟨k1, k2⟩ := ga.kp a o h hb hO
      refine ⟨?_, k2⟩
      rw [← hH6, upd_ne (fun (z : a = pG) => hO (by rw [z]; exact Op frG)), ← hH5, upd_ne (fun (z : a = pF) => hO (by rw [z]; exact Op frF)), ← hH4, upd_ne (fun (z : a = p0) => hO (by rw [z]; exact Op fr0))]
      exact k1
    · have up : ∀ {Hx : Hp} {b : Addr} {o : HO}, (L2.upd Hx b o) a = none → Hx a = none := fun {Hx b o} h => by
        by_cases z : a = b
        · rw [z, upd_same] at h
          cases h
        · rw [upd_ne z] at h
          exact h
      rw [← hH6] at h
      have h := up h
      rw [← hH5] at h
      have h := up h
      rw [← hH4] at h
      exact ga.al a (up h)
  -- the readings
  refine ⟨.ref pF, kf, .inl ⟨pF, _, 0, .ref p0, rfl, rfl, .inl (.inl KF), atI_nat (j := 0) rfl, .inl ⟨rfl, y3, .inl (.inl h03)⟩, p0, y3, .non, rfl, rfl, h03, sm l03, ?_⟩⟩
  rw [hH4]
  refine ⟨.ref pF, kf, .inl ⟨rfl, wF, .inl (.inl hwF)⟩, pF, wF, .non, rfl, rfl, hwF, sm lwF, ?_⟩
  rw [hH5]
  refine ⟨.ref pG, kg, .inl ⟨rfl, wG, .inl (.inl hwG)⟩, pG, wG, .non, rfl, rfl, hwG, sm lwG, ?_⟩
  rw [hH6]
  exact hq F O δ3 σ3 B3 H6 m7 E q3 N (e.go go)
end
theorem tSeq_assoc (a b c : TS) : tSeq (tSeq a b) c = tSeq a (tSeq b c) := rfl
end K26
set_option Elab.async false
set_option linter.all false
set_option maxRecDepth 100000
set_option maxHeartbeats 1000000
namespace K26
open PySem PySem.Spec PyProof.Rows L2

/-! ### is_integer -/
abbrev N_is_integer : List Str := ["value"]
abbrev ps_is_integer : List Str := ["value"]
theorem sc_is_integer : FnScope N_is_integer ps_is_integer (defScope s_is_integer) := ⟨rfl, rfl, rfl, by decide +kernel, rfl, by decide +kernel, by decide +kernel⟩
def m_is_integer : DTS := (dRet (dAndV (dIsTy "int" (dVar 0)) (dNotV (dIsTy "bool" (dVar 0)))))
def fs_is_integer : DSp := fun ds Q => m_is_integer (pureE Q) (startD 1 ds)
def t_is_integer (K : PySem.W.Frag) (P : Program) (w : World) : TS := (tRet (tAndV (tCB (rIsi K) (tCons (tVar 0) (tCons (tC (.ty "int")) tNil))) (tNotV (tCB (rIsi K) (tCons (tVar 0) (tCons (tC (.ty "bool")) tNil))))))
section
variable {P : Program} {w : World} {K : PySem.W.Frag} {mg : Str → Option Value} {base : Heap}
theorem bd_is_integer (T : Tp K mg base) {f : Addr} : Body P w K mg base (gx K) N_is_integer "is_integer" (defScope s_is_integer) f 0 (defBody s_is_integer) m_is_integer := fun cdv A outer s H E hr => by
  have nd := sc_is_integer.nd
  refine ⟨t_is_integer K P w, ?_, ?_⟩
  · exact (pss_one (ps_ret (pe_and (pe_callB cl_isi rfl T.f_isinstance bt_isinstance (pa_cons (pv 0) (pa_cons (pe_bltn rfl T.f_int bt_int rfl) pa_nil))) (pe_one (pe_not (pe_callB cl_isi rfl T.f_isinstance bt_isinstance (pa_cons (pv 0) (pa_cons (pe_bltn rfl T.f_bool bt_bool rfl) pa_nil))))))))
  · exact (rs_ret (ref_andV (ref_isTy (by decide +kernel) (by decide +kernel) (ref_var 0)) (ref_notV (ref_isTy (by decide +kernel) (by decide +kernel) (ref_var 0)))))
theorem cal_is_integer (T : Tp K mg base) : C8.Cal P w K mg base 1 "is_integer" (pSp (gx K) 1 fs_is_integer) [] := by
  obtain ⟨fd, F⟩ := T.c.def_ 0 (d := d_is_integer) rfl
  exact ⟨_, fd, ps_is_integer, [], fn_pure F sc_is_integer (bd_is_integer T) (fun ds DQ _ h => h), T.g_is_integer, F.kp, F.bindsN (fun _ _ _ _ _ _ us hl => match us, hl with | [_], _ => rfl), .nil⟩
end
/-! ### is_count -/
abbrev N_is_count : List Str := ["value"]
abbrev ps_is_count : List Str := ["value"]
theorem sc_is_count : FnScope N_is_count ps_is_count (defScope s_is_count) := ⟨rfl, rfl, rfl, by decide +kernel, rfl, by decide +kernel, by decide +kernel⟩
def m_is_count : DTS := (dRet (dAndV (dCall fs_is_integer [] (dCons (dVar 0) dNil)) (dOp cGe (dVar 0) (dC (.int 0)))))
def fs_is_count : DSp := fun ds Q => m_is_count (pureE Q) (startD 1 ds)
def t_is_count (K : PySem.W.Frag) (P : Program) (w : World) : TS := (tRet (tAndV (tCall (pSp (gx K) 1 fs_is_integer) [] E0 (tCons (tVar 0) tNil)) (tOp rGe (tVar 0) (tC (.int 0)))))
section
variable {P : Program} {w : World} {K : PySem.W.Frag} {mg : Str → Option Value} {base : Heap}
theorem bd_is_count (T : Tp K mg base) {f : Addr} : Body P w K mg base (gx K) N_is_count "is_count" (defScope s_is_count) f 1 (defBody s_is_count) m_is_count := fun cdv A outer s H E hr => by
  have nd := sc_is_count.nd
  refine ⟨t_is_count K P w, ?_, ?_⟩
  · exact (pss_one (ps_ret (pe_and (C8.pe_c (cal_is_integer T) hr (by decide) rfl (pa_cons (pv 0) pa_nil)) (pe_one (pe_cmpR op_ge (pv 0) pe_int (nomark _))))))
  · exact (rs_ret (ref_andV (ref_call (es := []) (fun _ _ => rfl) (ref_cons (ref_var 0) ref_nil)) (ref_op (ref_var 0) (ref_c fun _ _ => rfl) rr_c)))
theorem cal_is_count (T : Tp K mg base) : C8.Cal P w K mg base 2 "is_count" (pSp (gx K) 1 fs_is_count) [] := by
  obtain ⟨fd, F⟩ := T.c.def_ 1 (d := d_is_count) rfl
  exact ⟨_, fd, ps_is_count, [], fn_pure F sc_is_count (bd_is_count T) (fun ds DQ _ h => h), T.g_is_count, F.kp, F.bindsN (fun _ _ _ _ _ _ us hl => match us, hl with | [_], _ => rfl), .nil⟩
end
/-! ### is_list -/
abbrev N_is_list : List Str := ["value"]
abbrev ps_is_list : List Str := ["value"]
theorem sc_is_list : FnScope N_is_list ps_is_list (defScope s_is_list) := ⟨rfl, rfl, rfl, by decide +kernel, rfl, by decide +kernel, by decide +kernel⟩
def m_is_list : DTS := (dRet (dIsLT (dVar 0)))
def fs_is_list : DSp := fun ds Q => m_is_list (pureE Q) (startD 1 ds)
def t_is_list (K : PySem.W.Frag) (P : Program) (w : World) : TS := (tRet (tCB (rIsiT K) (tCons (tVar 0) (tCons (tTup (tCons (tC (.ty "list")) (tCons (tC (.ty "tuple")) tNil))) tNil))))
section
variable {P : Program} {w : World} {K : PySem.W.Frag} {mg : Str → Option Value} {base : Heap}
theorem bd_is_list (T : Tp K mg base) {f : Addr} : Body P w K mg base (gx K) N_is_list "is_list" (defScope s_is_list) f 0 (defBody s_is_list) m_is_list := fun cdv A outer s H E hr => by
  have nd := sc_is_list.nd
  refine ⟨t_is_list K P w, ?_, ?_⟩
  · exact (pss_one (ps_ret (pe_callB cl_isiT rfl T.f_isinstance bt_isinstance (pa_cons (pv 0) (pa_cons (pe_tup (pa_cons (pe_bltn rfl T.f_list bt_list rfl) (pa_cons (pe_bltn rfl T.f_tuple bt_tuple rfl) pa_nil))) pa_nil)))))
  · exact (rs_ret (ref_isLT (ref_var 0)))
theorem cal_is_list (T : Tp K mg base) : C8.Cal P w K mg base 1 "is_list" (pSp (gx K) 1 fs_is_list) [] := by
  obtain ⟨fd, F⟩ := T.c.def_ 2 (d := d_is_list) rfl
  exact ⟨_, fd, ps_is_list, [], fn_pure F sc_is_list (bd_is_list T) (fun ds DQ _ h => h), T.g_is_list, F.kp, F.bindsN (fun _ _ _ _ _ _ us hl => match us, hl with | [_], _ => rfl), .nil⟩
end
/-! ### lane_in -/
abbrev N_lane_in : List Str := ["value", "one"]
abbrev ps_lane_in : List Str := ["value"]
theorem sc_lane_in : FnScope N_lane_in ps_lane_in (defScope s_lane_in) := ⟨rfl, rfl, rfl, by decide +kernel, rfl, by decide +kernel, by decide +kernel⟩
def m_lane_in : DTS := (dSeq (dIf (dOr (dNot (dTst (dCall fs_is_list [] (dCons (dVar 0) dNil)))) (dOr (dTst (dOp neOp (dCB lenD (dCons (dVar 0) dNil)) (dC (.int 2)))) (dOr (dNot (dTst (dCB allD (dCons (dLc (dItT (dVar 0)) (gNm 1) dYes (dCall fs_is_count [] (dCons (dVar 1) dNil)) [1]) dNil)))) (dTst (dOp eqOp (dOp ixOp (dVar 0) (dC (.int 0))) (dOp ixOp (dVar 0) (dC (.int 1)))))))) (dRet (dC .non)) dNext) (dRet (dTup (dCons (dCB min2D (dCons (dOp ixOp (dVar 0) (dC (.int 0))) (dCons (dOp ixOp (dVar 0) (dC (.int 1))) dNil))) (dCons (dCB max2D (dCons (dOp ixOp (dVar 0) (dC (.int 0))) (dCons (dOp ixOp (dVar 0) (dC (.int 1))) dNil))) dNil)))))
def fs_lane_in : DSp := fun ds Q => m_lane_in (pureE Q) (startD 2 ds)
def t_lane_in (K : PySem.W.Frag) (P : Program) (w : World) : TS := (tSeq (tIfS (tOr (tNot (tB (tCall (pSp (gx K) 1 fs_is_list) [] E0 (tCons (tVar 0) tNil)))) (tOr (tTest (tOp (rNeD K) (tCB (rLen2 K) (tCons (tVar 0) tNil)) (tC (.int 2)))) (tOr (tNot (tB (tCB (rAll K) (tCons (tLc (iTup K (tVar 0)) (gName 1) tYes (tCall (pSp (gx K) 1 fs_is_count) [] E0 (tCons (tVar 1) tNil)) [1]) tNil)))) (tTest (tOp (rEqD K) (tOp (rIx K) (tVar 0) (tC (.int 0))) (tOp (rIx K) (tVar 0) (tC (.int 1)))))))) (tRet (tC .non)) tNext) (tRet (tTup (tCons (tCB rMin2 (tCons (tOp (rIx K) (tVar 0) (tC (.int 0))) (tCons (tOp (rIx K) (tVar 0) (tC (.int 1))) tNil))) (tCons (tCB rMax2 (tCons (tOp (rIx K) (tVar 0) (tC (.int 0))) (tCons (tOp (rIx K) (tVar 0) (tC (.int 1))) tNil))) tNil)))))
section
variable {P : Program} {w : World} {K : PySem.W.Frag} {mg : Str → Option Value} {base : Heap}
theorem bd_lane_in (T : Tp K mg base) {f : Addr} : Body P w K mg base (gx K) N_lane_in "lane_in" (defScope s_lane_in) f 2 (defBody s_lane_in) m_lane_in := fun cdv A outer s H E hr => by
  have nd := sc_lane_in.nd
  refine ⟨t_lane_in K P w, ?_, ?_⟩
  · exact (pss_cons (ps_if (PW.pt (pw_or (pt_not (pt_val (C8.pe_c (cal_is_list T) hr (by decide) rfl (pa_cons (pv 0) pa_nil)))) (pw_or (pt_cmpR (op_neD (hu4 hr)) (pe_callB cl_len rfl T.f_len bt_len (pa_cons (pv 0) pa_nil)) pe_int (nomark _)) (pw_or (pt_not (pt_val (pe_callB (cr_all rfl) rfl T.f_all bt_all (pa_cons (pe_lc (own := [("one", 1)]) (g := (gName 1)) (tt := tYes) (te := (tCall (pSp (gx K) 1 fs_is_count) [] E0 (tCons (tVar 1) tNil))) rfl nd (pi_tup (pv 0)) (blkOk_by (N := N_lane_in) (sc := defScope s_lane_in) (by decide +kernel)) (fun _ _ _ _ _ => (pg_name (i := 1) nd rfl (by first | exact Or.inl rfl | exact Or.inr rfl))) (fun _ _ _ _ _ => pts_nil) (fun _ _ _ _ _ => (C8.pe_c (cal_is_count T) hr (by decide) rfl (pa_cons (pv 1) pa_nil)))) pa_nil)))) (pw_or1 (pt_cmpR (op_eqD (hu4 hr)) (pe_ix ix_seq (pv 0) pe_int (fun _ _ => rfl)) (pe_ix ix_seq (pv 0) pe_int (fun _ _ => rfl)) (nomark _))))))) (pss_one (ps_ret pe_non)) pss_nil) (pss_one (ps_ret (pe_tup (pa_cons (pe_callB (cl_min rfl) rfl T.f_min bt_min (pa_cons (pe_ix ix_seq (pv 0) pe_int (fun _ _ => rfl)) (pa_cons (pe_ix ix_seq (pv 0) pe_int (fun _ _ => rfl)) pa_nil))) (pa_cons (pe_callB (cl_max rfl) rfl T.f_max bt_max (pa_cons (pe_ix ix_seq (pv 0) pe_int (fun _ _ => rfl)) (pa_cons (pe_ix ix_seq (pv 0) pe_int (fun _ _ => rfl)) pa_nil))) pa_nil))))))
  · exact (rs_seq (rs_if (ref_or (ref_not (ref_tB (ref_call (es := []) (fun _ _ => rfl) (ref_cons (ref_var 0) ref_nil)))) (ref_or (ref_tst (ref_op (ref_cb (ref_cons (ref_var 0) ref_nil) rc_len) (ref_c fun _ _ => rfl) rr_ne)) (ref_or (ref_not (ref_tB (ref_cb (ref_cons (ref_lc (ri_tup (ref_var 0)) (rn_name (by decide)) rt_yes (ref_call (es := []) (fun _ _ => rfl) (ref_cons (ref_var 1) ref_nil))) ref_nil) rc_all))) (ref_tst (ref_op (ref_op (ref_var 0) (ref_c fun _ _ => rfl) rr_ix) (ref_op (ref_var 0) (ref_c fun _ _ => rfl) rr_ix) rr_eq))))) (rs_ret (ref_c fun _ _ => rfl)) rs_next) (rs_ret (ref_tup (ref_cons (ref_cb (ref_cons (ref_op (ref_var 0) (ref_c fun _ _ => rfl) rr_ix) (ref_cons (ref_op (ref_var 0) (ref_c fun _ _ => rfl) rr_ix) ref_nil)) rc_min2) (ref_cons (ref_cb (ref_cons (ref_op (ref_var 0) (ref_c fun _ _ => rfl) rr_ix) (ref_cons (ref_op (ref_var 0) (ref_c fun _ _ => rfl) rr_ix) ref_nil)) rc_max2) ref_nil)))))
theorem cal_lane_in (T : Tp K mg base) : C8.Cal P w K mg base 3 "lane_in" (pSp (gx K) 1 fs_lane_in) [] := by
  obtain ⟨fd, F⟩ := T.c.def_ 3 (d := d_lane_in) rfl
  exact ⟨_, fd, ps_lane_in, [], fn_pure F sc_lane_in (bd_lane_in T) (fun ds DQ _ h => h), T.g_lane_in, F.kp, F.bindsN (fun _ _ _ _ _ _ us hl => match us, hl with | [_], _ => rfl), .nil⟩
end
end K26
set_option Elab.async false
set_option linter.all false
set_option maxRecDepth 100000
set_option maxHeartbeats 1000000
namespace K26
open PySem PySem.Spec PyProof.Rows L2
/-! ## sorting, plainly -/
section
variable {α β : Type} {k : β → PyData} {l m : List β}
def srt (k : β → PyData) (l : List β) : List β := l.mergeSort (PySem.W.dataLe false k)
theorem srt_perm : (srt k l).Perm l := List.mergeSort_perm _ _
theorem srt_pw : (srt k l).Pairwise (fun a b => PySem.W.dataLe false k a b = true) := by
  have t := PySem.W.sortLe_total (listOrd itemOrd) false fun b => PySem.W.keyToks (k b)
  exact List.pairwise_mergeSort (fun a b c h1 h2 => t.trans a b c h1 h2) (fun a b => by
    rcases t.total a b with h | h
    · exact Bool.or_eq_true_iff.mpr (.inl h)
    · exact Bool.or_eq_true_iff.mpr (.inr h)) l
theorem le_anti {a b : β} (h1 : PySem.W.dataLe false k a b = true) (h2 : PySem.W.dataLe false k b a = true) : PySem.W.keyToks (k a) = PySem.W.keyToks (k b) := by
  have e1 : (!(listOrd itemOrd).blt (PySem.W.keyToks (k b)) (PySem.W.keyToks (k a))) = true := h1
  have e2 : (!(listOrd itemOrd).blt (PySem.W.keyToks (k a)) (PySem.W.keyToks (k b))) = true := h2
  rw [Bool.not_eq_true'] at e1 e2
  exact (listOrd itemOrd).total _ _ e2 e1
theorem srt_uniq (inj : ∀ a ∈ l, ∀ b ∈ m, PySem.W.keyToks (k a) = PySem.W.keyToks (k b) → a = b) (p : l.Perm m) : srt k l = srt k m :=
  List.Perm.eq_of_pairwise (fun a b ha hb h1 h2 => inj a (srt_perm.mem_iff.mp ha) b (srt_perm.mem_iff.mp hb) (le_anti h1 h2)) srt_pw srt_pw (srt_perm.trans (p.trans srt_perm.symm))
theorem srt_map (f : α → β) (l : List α) : (srt (fun a => k (f a)) l).map f = srt k (l.map f) := List.map_mergeSort fun _ _ _ _ => rfl
end
abbrev Row := Int × Int × Int
def pairD (p : Int × Int) : D := .tup [.int p.1, .int p.2]
def rowD (r : Row) : D := .tup [.int r.1, .int r.2.1, .int r.2.2]
theorem rowD_py (r : Row) : (rowD r).py = .tuple [.int r.1, .int r.2.1, .int r.2.2] := rfl
theorem tok_int {a b : Int} (h : PySem.W.keyToks (.int a) = PySem.W.keyToks (.int b)) : a = b := by
  have e : ([.inl a] : List (Int ⊕ List Nat)) = [.inl b] := h
  simpa using e
theorem tok_pair {p q : Int × Int} (h : PySem.W.keyToks (pairD p).py = PySem.W.keyToks (pairD q).py) : p = q := by
  have e : ([.inl 1, .inl p.1, .inl 1, .inl p.2, .inl 0] : List (Int ⊕ List Nat)) = [.inl 1, .inl q.1, .inl 1, .inl q.2, .inl 0] := h
  simp only [List.cons.injEq, Sum.inl.injEq, true_and, and_true] at e
  exact Prod.ext e.1 e.2
theorem tok_rows : ∀ {l m : List Row}, PySem.W.keyToksAll (l.map fun r => (rowD r).py) = PySem.W.keyToksAll (m.map fun r => (rowD r).py) → l = m
  | [], [], _ => rfl
  | [], r :: m, h => by
    have e : ([.inl 0] : List (Int ⊕ List Nat)) = .inl 1 :: (PySem.W.keyToks (rowD r).py ++ PySem.W.keyToksAll (m.map fun r => (rowD r).py)) := h
    simp at e
  | r :: l, [], h => by
    have e : Sum.inl 1 :: (PySem.W.keyToks (rowD r).py ++ PySem.W.keyToksAll (l.map fun r => (rowD r).py)) = ([.inl 0] : List (Int ⊕ List Nat)) := h
    simp at e
  | r :: l, s :: m, h => by
    have e : (.inl 1 :: .inl 1 :: .inl r.1 :: .inl 1 :: .inl r.2.1 :: .inl 1 :: .inl r.2.2 :: .inl 0 :: PySem.W.keyToksAll (l.map fun r => (rowD r).py) : List (Int ⊕ List Nat)) = .inl 1 :: .inl 1 :: .inl s.1 :: .inl 1 :: .inl s.2.1 :: .inl 1 :: .inl s.2.2 :: .inl 0 :: PySem.W.keyToksAll (m.map fun r => (rowD r).py) := h
    simp only [List.cons.injEq, Sum.inl.injEq, true_and] at e
    obtain ⟨e1, e2, e3, e4⟩ := e
    rw [tok_rows e4, show r = s from Prod.ext e1 (Prod.ext e2 e3)]
def loadL (l : List Row) : D := .lst (l.map rowD)
def loadN (l : List Row) : D := .new (l.map rowD)
theorem rows_py (l : List Row) : D.pys (l.map rowD) = l.map fun r => (rowD r).py := by rw [pys_map, List.map_map]; rfl
theorem tok_load {l m : List Row} (h : PySem.W.keyToks (loadL l).py = PySem.W.keyToks (loadL m).py) : l = m := by
  have e : PySem.W.keyToksAll (D.pys (l.map rowD)) = PySem.W.keyToksAll (D.pys (m.map rowD)) := h
  rw [rows_py, rows_py] at e
  exact tok_rows e
/-- the sorted things -/
def sortI (l : List Int) : List Int := srt (fun i => .int i) l
def sortP (l : List (Int × Int)) : List (Int × Int) := srt (fun p => (pairD p).py) l
def sortR (l : List Row) : List Row := srt (fun r => (rowD r).py) l
def sortL (l : List (List Row)) : List (List Row) := srt (fun x => (loadL x).py) l
theorem sortD_I (l : List Int) : sortD (l.map D.int) = (sortI l).map D.int := (srt_map (k := D.py) D.int l).symm
theorem sortD_P (l : List (Int × Int)) : sortD (l.map pairD) = (sortP l).map pairD := (srt_map (k := D.py) pairD l).symm
theorem sortD_R (l : List Row) : sortD (l.map rowD) = (sortR l).map rowD := (srt_map (k := D.py) rowD l).symm
theorem sortD_L (l : List (List Row)) : sortD (l.map loadL) = (sortL l).map loadL := (srt_map (k := D.py) loadL l).symm
theorem sortD_N (l : List (List Row)) : sortD (l.map loadN) = (sortL l).map loadN := (srt_map (k := D.py) loadN l).symm
theorem sortI_uniq {l m : List Int} (p : l.Perm m) : sortI l = sortI m := srt_uniq (fun _ _ _ _ h => tok_int h) p
theorem sortL_uniq {l m : List (List Row)} (p : l.Perm m) : sortL l = sortL m := srt_uniq (fun _ _ _ _ h => tok_load h) p
/-- data that may be compared, of depth at most n -/
structure Nc (n : Nat) (d : D) : Prop where
  fl : d.flat = true
  cl : d.py.canLay0 = true
  dp : d.py.depth ≤ n
theorem Nc.ok {n : Nat} {d : D} (h : Nc n d) (hn : n ≤ 64 := by decide) : OkD d := ⟨h.fl, by
  have := h.dp
  unfold SeqAt.shaped
  rw [h.cl, decide_eq_true (by omega : d.py.depth ≤ 64)]
  rfl⟩
theorem Nc.int {n : Nat} (i : Int) : Nc n (.int i) := ⟨rfl, rfl, Nat.zero_le _⟩
theorem Nc.non {n : Nat} : Nc n .non := ⟨rfl, rfl, Nat.zero_le _⟩
theorem nc_all {n : Nat} : ∀ {ds : List D}, (∀ d ∈ ds, Nc n d) → D.flats ds = true ∧ PyData.canLayAll0 (D.pys ds) = true ∧ PyData.depthAll (D.pys ds) ≤ n
  | [], _ => ⟨rfl, rfl, Nat.zero_le _⟩
  | d :: ds, h => by
    obtain ⟨h1, h2, h3⟩ := nc_all fun x hx => h x (List.mem_cons_of_mem d hx)
    have k := h d List.mem_cons_self
    refine ⟨?_, ?_, ?_⟩
    · show (d.flat && D.flats ds) = true
      rw [k.fl, h1]
      rfl
    · show (d.py.canLay0 && PyData.canLayAll0 (D.pys ds)) = true
      rw [k.cl, h2]
      rfl
    · show max d.py.depth (PyData.depthAll (D.pys ds)) ≤ n
      exact Nat.max_le.mpr ⟨k.dp, h3⟩
theorem Nc.lst {n : Nat} {ds : List D} (h : ∀ d ∈ ds, Nc n d) : Nc (n + 1) (.lst ds) := by
  obtain ⟨h1, h2, h3⟩ := nc_all h
  exact ⟨h1, h2, Nat.succ_le_succ h3⟩
theorem Nc.new {n : Nat} {ds : List D} (h : ∀ d ∈ ds, Nc n d) : Nc (n + 1) (.new ds) := by
  obtain ⟨h1, h2, h3⟩ := nc_all h
  exact ⟨h1, h2, Nat.succ_le_succ h3⟩
theorem Nc.tup {n : Nat} {ds : List D} (h : ∀ d ∈ ds, Nc n d) : Nc (n + 1) (.tup ds) := by
  obtain ⟨h1, h2, h3⟩ := nc_all h
  exact ⟨h1, h2, Nat.succ_le_succ h3⟩
theorem mem_map_all {α : Type} {f : α → D} {P : D → Prop} (h : ∀ x, P (f x)) {l : List α} : ∀ d ∈ l.map f, P d := fun d hd => by
  obtain ⟨a, _, rfl⟩ := List.mem_map.mp hd
  exact h a
theorem nc_ints {n : Nat} {ds : List D} (h : ∀ d ∈ ds, ∃ i, d = .int i) : ∀ d ∈ ds, Nc n d := fun d hd => by
  obtain ⟨i, rfl⟩ := h d hd
  exact .int i
theorem nc_row (r : Row) : Nc 1 (rowD r) := .tup fun d hd => by
  simp only [List.mem_cons, List.not_mem_nil, or_false] at hd
  rcases hd with rfl | rfl | rfl <;> exact .int _
theorem nc_pair (p : Int × Int) : Nc 1 (pairD p) := .tup fun d hd => by
  simp only [List.mem_cons, List.not_mem_nil, or_false] at hd
  rcases hd with rfl | rfl <;> exact .int _
theorem nc_load (l : List Row) : Nc 2 (loadL l) := .lst (mem_map_all nc_row)
theorem nc_loadN (l : List Row) : Nc 2 (loadN l) := .new (mem_map_all nc_row)
theorem nc_loads (l : List (List Row)) : Nc 3 (.lst (l.map loadL)) := .lst (mem_map_all nc_load)
theorem nc_loadsN (l : List (List Row)) : Nc 3 (.new (l.map loadN)) := .new (mem_map_all nc_loadN)
theorem sortOk_of {α : Type} {f : α → D} {n : Nat} (al : ∀ x y, PySem.W.alike (f x).py (f y).py = true) (so : ∀ l : List α, PySem.W.Sortable ((l.map f).map D.py)) (nc : ∀ x, Nc n (f x)) (hn : n ≤ 16) (l : List α) (ln : l.length < 100000) : SortOk (l.map f) :=
  ⟨fun d hd e he => by
    rw [List.map_map] at hd he
    obtain ⟨a, _, rfl⟩ := List.mem_map.mp hd
    obtain ⟨b, _, rfl⟩ := List.mem_map.mp he
    exact al a b, so l, fun d hd => by
    obtain ⟨a, ha, rfl⟩ := List.mem_map.mp hd
    exact Nat.le_trans (nc a).dp hn, (nc_all (mem_map_all (P := Nc n) nc)).1, by rw [List.length_map]; exact ln⟩
theorem so_tup {α : Type} {f : α → D} (h : ∀ x, ∃ y r, (f x).py = .tuple (y :: r)) (l : List α) : PySem.W.Sortable ((l.map f).map D.py) := .inl fun d hd => by
  rw [List.map_map] at hd
  obtain ⟨a, _, rfl⟩ := List.mem_map.mp hd
  exact h a
theorem so_oth {α : Type} {f : α → D} (h : ∀ x, (f x).py ≠ .none ∧ ∀ xs, (f x).py ≠ .tuple xs) (l : List α) : PySem.W.Sortable ((l.map f).map D.py) := .inr fun d hd => by
  rw [List.map_map] at hd
  obtain ⟨a, _, rfl⟩ := List.mem_map.mp hd
  exact h a
theorem sok_I (l : List Int) (h : l.length < 100000) : SortOk (l.map D.int) := sortOk_of (f := D.int) (n := 0) (fun _ _ => rfl) (so_oth fun _ => ⟨(fun z => by cases z), (fun _ z => by cases z)⟩) .int (by decide) l h
theorem sok_P (l : List (Int × Int)) (h : l.length < 100000) : SortOk (l.map pairD) := sortOk_of (fun _ _ => rfl) (so_tup fun _ => ⟨_, _, rfl⟩) nc_pair (by decide) l h
theorem sok_R (l : List Row) (h : l.length < 100000) : SortOk (l.map rowD) := sortOk_of (fun _ _ => rfl) (so_tup fun _ => ⟨_, _, rfl⟩) nc_row (by decide) l h
theorem alike_rows : ∀ l m : List Row, PySem.W.alikeAll (D.pys (l.map rowD)) (D.pys (m.map rowD)) = true
  | [], [] => rfl
  | [], _ :: _ => rfl
  | _ :: _, [] => rfl
  | r :: l, s :: m => by
    show (PySem.W.alike (rowD r).py (rowD s).py && PySem.W.alikeAll (D.pys (l.map rowD)) (D.pys (m.map rowD))) = true
    rw [alike_rows l m]
    rfl
theorem sok_L (l : List (List Row)) (h : l.length < 100000) : SortOk (l.map loadL) := sortOk_of (f := loadL) (fun x y => alike_rows x y) (so_oth fun _ => ⟨(fun z => by cases z), (fun _ z => by cases z)⟩) nc_load (by decide) l h
theorem sok_N (l : List (List Row)) (h : l.length < 100000) : SortOk (l.map loadN) := sortOk_of (f := loadN) (fun x y => alike_rows x y) (so_oth fun _ => ⟨(fun z => by cases z), (fun _ z => by cases z)⟩) nc_loadN (by decide) l h
/-! ### the order of rows -/
theorem rowLt_key {r s : Row} (h : PySem.W.dataLe false (fun r => (rowD r).py) r s = true) (ne : (r.1, r.2.1) ≠ (s.1, s.2.1)) : r.1 < s.1 ∨ (r.1 = s.1 ∧ r.2.1 < s.2.1) := by
  have e : (!PySem.W.dataLt (.tuple [.int s.1, .int s.2.1, .int s.2.2]) (.tuple [.int r.1, .int r.2.1, .int r.2.2])) = true := h
  rw [PySem.W.dataLt_tuple, PySem.W.dataLt_cons (by rfl), PySem.W.dataLt_cons (by rfl), PySem.W.dataLt_int, PySem.W.dataLt_int] at e
  simp only [PyData.eqv, beq_iff_eq] at e
  by_cases h1 : s.1 = r.1
  · rw [if_pos h1] at e
    by_cases h2 : s.2.1 = r.2.1
    · exact absurd (by rw [h1, h2]) ne
    · rw [if_neg h2, Bool.not_eq_true', decide_eq_false_iff_not] at e
      exact .inr ⟨h1.symm, by omega⟩
  · rw [if_neg h1, Bool.not_eq_true', decide_eq_false_iff_not] at e
    exact .inl (by omega)
end K26
set_option Elab.async false
set_option linter.all false
set_option maxRecDepth 100000
set_option maxHeartbeats 1000000
namespace K26
open PySem PySem.Spec PyProof.Rows L2

abbrev N_ties_of : List Str := ["lanes", "found", "near", "far", "place", "row"]
abbrev ps_ties_of : List Str := ["lanes"]
theorem sc_ties_of : FnScope N_ties_of ps_ties_of (defScope s_ties_of) := ⟨rfl, rfl, rfl, by decide +kernel, rfl, by decide +kernel, by decide +kernel⟩
def tA_ties_of (K : PySem.W.Frag) : TS := (tAsg (tLc (iRng1 (tCons (tOp rAdd (tCB (rLen2 K) (tCons (tVar 0) tNil)) (tC (.int 1))) tNil)) (gName 4) tYes (tLst tNil) [4]) (gName 1))
def tB_ties_of (K : PySem.W.Frag) : TS := (tFor (iList K (tVar 0)) (gTup K 2 (gCons (gName 2) (gCons (gName 3) gNil))) (tSeq (tDrop (tBM K "list" rAppend (tOp (rIx K) (tVar 1) (tVar 2)) (tCons (tVar 3) tNil))) (tDrop (tBM K "list" rAppend (tOp (rIx K) (tVar 1) (tVar 3)) (tCons (tVar 2) tNil)))))
def tC_ties_of (K : PySem.W.Frag) : TS := (tRet (tLc (iList K (tVar 1)) (gName 5) tYes (tCB (rSortedD K) (tCons (tVar 5) tNil)) [5]))
def mC_ties_of : DTS := (dRet (dLc (dItL (dVar 1)) (gNm 5) dYes (dCB sortedD (dCons (dVar 5) dNil)) [5]))
section
variable {P : Program} {w : World} {K : PySem.W.Frag} {mg : Str → Option Value} {base : Heap}
theorem rC_ties_of : RefS (gx K) (tC_ties_of K) mC_ties_of := (rs_ret (ref_lc (ri_list (ref_var 1)) (rn_name (by decide)) rt_yes (ref_cb (ref_cons (ref_var 5) ref_nil) rc_sorted)))
theorem pw_ties_of (T : Tp K mg base) {f : Addr} (cdv : Value) (A : Around) (outer : List Env) (s : Shared) (H : Hp) (E : XK) (hr : Room 0 (A.deeper (envOfC "ties_of" (defScope s_ties_of) s.heap.objs.size f cdv))) : PSs (cxOf CX0 P w K mg base N_ties_of "ties_of" (defScope s_ties_of) f cdv A outer s H E).nox (defBody s_ties_of) (tSeq (tA_ties_of K) (tSeq (tB_ties_of K) (tC_ties_of K))) := by
  have nd := sc_ties_of.nd
  exact (pss_cons (ps_setLc (i := 1) (own := [("place", 4)]) (g := (gName 4)) (tt := tYes) (te := (tLst tNil)) rfl nd rfl rfl (sw_true rfl rfl rfl (by decide +kernel)) (pi_range1 rfl T.f_range (pa_cons (pe_op op_add (pe_callB cl_len rfl T.f_len bt_len (pa_cons (pv 0) pa_nil)) pe_int) pa_nil)) (blkOk_by (N := N_ties_of) (sc := defScope s_ties_of) (by decide +kernel)) (fun _ _ _ _ _ => (pg_name (i := 4) nd rfl (by first | exact Or.inl rfl | exact Or.inr rfl))) (fun _ _ _ _ _ => pts_nil) (fun _ _ _ _ _ => (pe_lst pa_nil))) (pss_cons (ps_for PassesOwn.never rfl (pi_list (pv 0)) (pg_tup rfl (pgs_cons (pg_name (i := 2) nd rfl (by first | exact Or.inl rfl | exact Or.inr rfl)) (pgs_cons (pg_name (i := 3) nd rfl (by first | exact Or.inl rfl | exact Or.inr rfl)) pgs_nil))) (pss_cons (ps_expr (pe_bm PySem.F.plainAttrs_list PySem.F.slot_list_append PySem.F.type_list_append mt_append (pe_ix ix_seq (pv 1) (pv 2) (fun _ _ => rfl)) (pa_cons (pv 3) pa_nil))) (pss_one (ps_expr (pe_bm PySem.F.plainAttrs_list PySem.F.slot_list_append PySem.F.type_list_append mt_append (pe_ix ix_seq (pv 1) (pv 3) (fun _ _ => rfl)) (pa_cons (pv 2) pa_nil)))))) (pss_one (ps_ret (pe_lc (own := [("row", 5)]) (g := (gName 5)) (tt := tYes) (te := (tCB (rSortedD K) (tCons (tVar 5) tNil))) rfl nd (pi_list (pv 1)) (blkOk_by (N := N_ties_of) (sc := defScope s_ties_of) (by decide +kernel)) (fun _ _ _ _ _ => (pg_name (i := 5) nd rfl (by first | exact Or.inl rfl | exact Or.inr rfl))) (fun _ _ _ _ _ => pts_nil) (fun _ _ _ _ _ => (pe_callB (cr_sortedD (hu4 hr)) rfl T.f_sorted bt_sorted (pa_cons (pv 5) pa_nil))))))))
end
end K26
set_option Elab.async false
set_option linter.all false
set_option maxRecDepth 100000
set_option maxHeartbeats 1000000
namespace K26
open PySem PySem.Spec PyProof.Rows L2
/-! ### ties_of: rows that are lists of their own within a list of its own -/
def rowOf (ls : List (Int × Int)) (i : Nat) : List Int := ls.flatMap fun p => (if p.1 = (i : Int) then [p.2] else []) ++ (if p.2 = (i : Int) then [p.1] else [])
def tiesD (ls : List (Int × Int)) : List D := (List.range (ls.length + 1)).map fun i => .lst (sortD ((rowOf ls i).map D.int))
def fs_ties_of : DSp := fun ds Q => ∃ ls : List (Int × Int), ds = [.lst (ls.map pairD)] ∧ (∀ p ∈ ls, (0 ≤ p.1 ∧ p.1 ≤ (ls.length : Int)) ∧ 0 ≤ p.2 ∧ p.2 ≤ (ls.length : Int)) ∧ ls.length < 1000 ∧ Q (.lst (tiesD ls))
/-- D: the outer list, ps: the rows' addresses, all new -/
structure Ti (B H0 H2 : Hp) (D : Addr) (ps : List Addr) (rows : Nat → List Int) : Prop where
  ex : Ex B H2
  up : Ex H0 H2
  d0 : H0 D = none
  ld : H2 D = some (.lst (ps.map V.ref))
  q0 : ∀ q ∈ ps, H0 q = none
  nd : ps.Nodup
  nD : D ∉ ps
  rw_ : ∀ (i : Nat) (q : Addr), ps[i]? = some q → H2 q = some (.lst ((rows i).map V.int))
section
variable {B H0 H2 : Hp} {D : Addr} {ps : List Addr} {rows : Nat → List Int}
theorem Ti.bn (t : Ti B H0 H2 D ps rows) (eb : Ex B H0) : B D = none ∧ ∀ q ∈ ps, B q = none := ⟨eb.none t.d0, fun q hq => eb.none (t.q0 q hq)⟩
theorem Ti.grow (t : Ti B H0 H2 D ps fun _ => []) (eb : Ex B H0) {p : Addr} (hp : H2 p = none) : Ti B H0 (upd (upd H2 p (.lst [])) D (.lst (ps.map V.ref ++ [.ref p]))) D (ps ++ [p]) fun _ => [] := by
  have pD : p ≠ D := fun z => by
    rw [z, t.ld] at hp
    cases hp
  have pn : p ∉ ps := fun z => by
    obtain ⟨i, hi⟩ := List.mem_iff_getElem?.mp z
    rw [t.rw_ i p hi] at hp
    cases hp
  have h0 : H0 p = none := t.up.none hp
  have Db : B D = none := eb.none t.d0
  have keep : ∀ a, a ≠ p → a ≠ D → (upd (upd H2 p (.lst [])) D (.lst (ps.map V.ref ++ [.ref p]))) a = H2 a := fun a h1 h2 => by rw [upd_ne h2, upd_ne h1]
  refine ⟨fun a o h => ?_, fun a o h => ?_, t.d0, by rw [upd_same, List.map_append]; rfl, fun q hq => ?_, ?_, fun z => ?_, fun i q hq => ?_⟩
  · rw [keep a (fun z => by rw [z, eb.none h0] at h; cases h) (fun z => by rw [z, Db] at h; cases h)]
    exact t.ex a o h
  · rw [keep a (fun z => by rw [z, h0] at h; cases h) (fun z => by rw [z, t.d0] at h; cases h)]
    exact t.up a o h
  · rcases List.mem_append.mp hq with h | h
    · exact t.q0 q h
    · rw [List.mem_singleton.mp h]
      exact h0
  · refine List.nodup_append.mpr ⟨t.nd, List.nodup_cons.mpr ⟨List.not_mem_nil, List.nodup_nil⟩, fun a ha b hb e => ?_⟩
    rw [List.mem_singleton.mp hb] at e
    exact pn (e ▸ ha)
  · rcases List.mem_append.mp z with h | h
    · exact t.nD h
    · exact pD (List.mem_singleton.mp h).symm
  · by_cases hi : i < ps.length
    · rw [List.getElem?_append_left hi] at hq
      have hm := List.mem_of_getElem? hq
      rw [keep q (fun z => pn (z ▸ hm)) (fun z => t.nD (z ▸ hm))]
      exact t.rw_ i q hq
    · rw [List.getElem?_append_right (by omega)] at hq
      have e : q = p := List.mem_singleton.mp (List.mem_of_getElem? hq)
      rw [e, upd_ne pD, upd_same]
      rfl
theorem Ti.app (t : Ti B H0 H2 D ps rows) (eb : Ex B H0) {i : Nat} {q : Addr} (hq : ps[i]? = some q) (z : Int) : Ti B H0 (upd H2 q (.lst ((rows i).map V.int ++ [.int z]))) D ps fun k => if k = i then rows i ++ [z] else rows k := by
  have hm := List.mem_of_getElem? hq
  have q0 := t.q0 q hm
  refine ⟨fun a o h => ?_, fun a o h => ?_, t.d0, ?_, t.q0, t.nd, t.nD, fun k u hu => ?_⟩
  · rw [upd_ne fun y => by rw [y, eb.none q0] at h; cases h]
    exact t.ex a o h
  · rw [upd_ne fun y => by rw [y, q0] at h; cases h]
    exact t.up a o h
  · rw [upd_ne fun y => t.nD (by rw [y]; exact hm)]
    exact t.ld
  · by_cases e : k = i
    · subst e
      rw [hq] at hu
      cases hu
      rw [upd_same, if_pos rfl, List.map_append]
      rfl
    · have ne : u ≠ q := fun y => by
        subst y
        obtain ⟨h1, h2⟩ := List.getElem?_eq_some_iff.mp hq
        obtain ⟨h3, h4⟩ := List.getElem?_eq_some_iff.mp hu
        exact e ((List.getElem_inj t.nd).mp (h4.trans h2.symm))
      rw [upd_ne ne, if_neg e]
      exact t.rw_ k u hu
end
section
variable {K : PySem.W.Frag}
theorem row_take {ls : List (Int × Int)} {i : Nat} {p : Int × Int} (h : ls[i]? = some p) (k : Nat) : rowOf (ls.take (i + 1)) k = rowOf (ls.take i) k ++ ((if p.1 = (k : Int) then [p.2] else []) ++ (if p.2 = (k : Int) then [p.1] else [])) := by
  unfold rowOf
  rw [List.take_add_one, h, List.flatMap_append]
  show _ ++ (List.flatMap _ [p]) = _
  rw [List.flatMap_cons, List.flatMap_nil, List.append_nil]
theorem row_len (ls : List (Int × Int)) (k : Nat) : (rowOf ls k).length ≤ 2 * ls.length := by
  unfold rowOf
  induction ls with
  | nil => exact Nat.le_refl _
  | cons p ls ih =>
    rw [List.flatMap_cons, List.length_append, List.length_append, List.length_cons]
    split <;> split <;> simp only [List.length_cons, List.length_nil] <;> omega
theorem ties_reads (vs : List V) (H : Hp) (Q : VK) (E : XK) (h : pSp (gx K) 1 fs_ties_of vs H Q E) : (tSeq (tA_ties_of K) (tSeq (tB_ties_of K) (tC_ties_of K))) { nx := fun _ H' => Q .non H', rt := Q } (L2.start N_ties_of vs) H := by
  obtain ⟨F, B, ds, DQ, hl, ff, eb, rr, ⟨ls, eds, hls, hn, hq⟩, hQ⟩ := h
  subst eds
  obtain ⟨v, rfl, rv⟩ := reps1 rr
  obtain ⟨a, xs, ea, ha, rx⟩ := rv
  subst ea
  have xl := rx.length
  rw [List.length_map] at xl
  have SqA : ∀ {H2 : Hp}, Ex B H2 → SqL K H2 a xs := fun e => .inl (.inl (e _ _ ha))
  -- the rows are made
  refine ⟨.ref a, rfl, a, xs, rfl, .inl (SqA eb), _, 1, rfl, rfl, _, rfl, by rw [xl]; omega, by rw [xl]; omega, fun D hD => ?_⟩
  have en : ((xs.length : Int) + 1).toNat = ls.length + 1 := by omega
  rw [en]
  refine lc_it walk_range (fun i H2 => ∃ ps, ps.length = i ∧ Ti B H H2 D ps fun _ => []) ⟨[], rfl, (Nw.side eb hD).ex, (Nw.side (o := .lst []) eb hD).hh, hD, upd_same, (fun q z => (List.not_mem_nil z).elim), List.nodup_nil, List.not_mem_nil, (fun i q z => by rw [List.getElem?_nil] at z; cases z)⟩ (fun _ _ _ _ => trivial) ?_ ?_
  · rintro i x H2 H3 hi ⟨ps, pl, t⟩ ⟨e1, e2⟩
    subst e1 e2
    refine ⟨rfl, ?_⟩
    unfold tYes
    dsimp only
    rw [if_pos rfl]
    refine ⟨Nat.zero_le _, fun p hp => ?_⟩
    have pD : D ≠ p := fun z => by
      rw [← z, t.ld] at hp
      cases hp
    refine ⟨ps.map V.ref, by rw [upd_ne pD]; exact t.ld, by rw [List.length_map, sizeLine_eq]; omega, ps ++ [p], by rw [List.length_append, List.length_singleton, pl], t.grow eb hp⟩
  · rintro H2 ⟨ps, pl, t0⟩
    -- the rows are filled
    refine ⟨.ref a, rfl, a, rfl, ⟨xs, SqA t0.ex⟩, ?_⟩
    refine for_it (walk_list (xs := xs)) (fun i σ2 H3 => ∃ s2 s3 s4 s5, σ2 = [some (.ref a), some (.ref D), s2, s3, s4, s5] ∧ Ti B H H3 D ps fun k => rowOf (ls.take i) k) ⟨none, none, none, none, rfl, t0⟩ ?_ ?_ ?_
    · rintro i σ2 H3 _ ⟨_, _, _, _, _, t⟩
      exact SqA t.ex
    · rintro i x σ2 H3 H4 hi ⟨s2, s3, s4, s5, rfl, t⟩ ⟨e1, hx⟩
      subst e1
      have hi2 : i < ls.length := by omega
      obtain ⟨u, hu, ru⟩ := rx.get (i := i) (d := pairD ls[i]) (by rw [List.getElem?_map, List.getElem?_eq_getElem hi2]; rfl)
      rw [hx] at hu
      cases hu
      obtain ⟨tp, ys, e2, htp, ry⟩ := ru
      subst e2
      obtain ⟨v1, r1, e3, f1, r2⟩ := ry
      obtain ⟨v2, r3, e4, f2, r4⟩ := r2
      cases (show v1 = .int ls[i].1 from f1)
      cases (show v2 = .int ls[i].2 from f2)
      cases (show r3 = [] from r4)
      subst e4 e3
      obtain ⟨⟨b1, b2⟩, b3, b4⟩ := hls ls[i] (List.getElem_mem hi2)
      have hp := List.getElem?_eq_getElem hi2
      generalize ls[i] = pr at *
      obtain ⟨p1, p2⟩ := pr
      obtain ⟨n1, en1⟩ : ∃ n : Nat, p1 = n := ⟨p1.toNat, by have : 0 ≤ p1 := b1; omega⟩
      obtain ⟨n2, en2⟩ : ∃ n : Nat, p2 = n := ⟨p2.toNat, by have : 0 ≤ p2 := b3; omega⟩
      subst en1 en2
      have l1 : n1 < ps.length := by have : (n1 : Int) ≤ (ls.length : Int) := b2; omega
      have l2 : n2 < ps.length := by have : (n2 : Int) ≤ (ls.length : Int) := b4; omega
      have g1 := List.getElem?_eq_getElem l1
      have g2 := List.getElem?_eq_getElem l2
      have rl := row_len (ls.take i)
      have tl : (ls.take i).length ≤ ls.length := by rw [List.length_take]; omega
      refine ⟨tp, _, rfl, .inl (.inl (t.ex _ _ htp)), rfl, _, _, rfl, _, _, rfl, rfl, ?_⟩
      have t1 := t.app eb g1 (n2 : Int)
      have t2 := t1.app eb g2 (n1 : Int)
      refine ⟨.ref D, rfl, .int n1, rfl, .inl ⟨D, _, n1, .ref ps[n1], rfl, rfl, .inl (.inl t.ld), atI_nat (by rw [List.getElem?_map, g1]; rfl), .inl ⟨rfl, _, .inl (.inl (t.rw_ n1 _ g1))⟩, .int n2, rfl, ps[n1], _, .int n2, rfl, rfl, t.rw_ n1 _ g1, by rw [List.length_map, sizeLine_eq]; have := rl n1; omega, ?_⟩⟩
      refine ⟨.ref D, rfl, .int n2, rfl, .inl ⟨D, _, n2, .ref ps[n2], rfl, rfl, .inl (.inl t1.ld), atI_nat (by rw [List.getElem?_map, g2]; rfl), .inl ⟨rfl, _, .inl (.inl (t1.rw_ n2 _ g2))⟩, .int n1, rfl, ps[n2], _, .int n1, rfl, rfl, t1.rw_ n2 _ g2, by
        rw [List.length_map, sizeLine_eq]
        have := rl n1
        have := rl n2
        split
        · rw [List.length_append, List.length_singleton]
          omega
        · omega, ?_⟩⟩
      refine ⟨_, _, _, _, rfl, ?_⟩
      have ee : (fun k => rowOf (ls.take (i + 1)) k) = fun k => if k = n2 then (if n2 = n1 then rowOf (ls.take i) n1 ++ [(n2 : Int)] else rowOf (ls.take i) n2) ++ [(n1 : Int)] else if k = n1 then rowOf (ls.take i) n1 ++ [(n2 : Int)] else rowOf (ls.take i) k := by
        funext k
        rw [row_take hp]
        by_cases k2 : k = n2
        · subst k2
          dsimp only
          rw [if_pos rfl, if_pos rfl]
          by_cases k1 : k = n1
          · subst k1
            rw [if_pos rfl, if_pos rfl, List.append_assoc]
          · rw [if_neg (show ¬ (n1 : Int) = k by omega), if_neg k1]
            rfl
        · dsimp only
          rw [if_neg k2, if_neg (show ¬ (n2 : Int) = k by omega), List.append_nil]
          by_cases k1 : k = n1
          · subst k1
            rw [if_pos rfl, if_pos rfl]
          · rw [if_neg k1, if_neg (show ¬ (n1 : Int) = k by omega), List.append_nil]
      rw [ee]
      exact t2
    · rintro σ2 H3 ⟨s2, s3, s4, s5, rfl, t⟩
      rw [xl, List.take_length] at t
      -- the rows are sorted
      obtain ⟨bD, bq⟩ := t.bn eb
      let B3 : Hp := fun x => if x = D ∨ x ∈ ps then H3 x else B x
      have in3 : ∀ {x}, (x = D ∨ x ∈ ps) → B3 x = H3 x := fun h => if_pos h
      have out3 : ∀ {x}, ¬ (x = D ∨ x ∈ ps) → B3 x = B x := fun h => if_neg h
      have eb3 : Ex B B3 := fun x o hx => by
        have n : ¬ (x = D ∨ x ∈ ps) := fun z => by
          rcases z with z | z
          · rw [z, bD] at hx
            cases hx
          · rw [bq x z] at hx
            cases hx
        rw [out3 n]
        exact hx
      have ex3 : Ex B3 H3 := fun x o hx => by
        by_cases z : x = D ∨ x ∈ ps
        · rw [in3 z] at hx
          exact hx
        · rw [out3 z] at hx
          exact t.ex x o hx
      have nw : Nw B H B3 H3 := ⟨eb3, ex3, t.up, fun x hx hb => by
        rw [out3 fun z => ?_]
        · exact hb
        · rcases z with z | z
          · exact hx (z ▸ t.d0)
          · exact hx (t.q0 x z)⟩
      have rrows : ∀ (qs : List Addr) (s : Nat), (∀ (i : Nat) (q : Addr), qs[i]? = some q → ps[s + i]? = some q) → Reps (gx K) F B3 ((List.range' s qs.length).map fun i => .lst ((rowOf ls i).map K26.D.int)) (qs.map V.ref) := fun qs => by
        induction qs with
        | nil => intro s _; rfl
        | cons q qs ih =>
          intro s hs
          have h0 := hs 0 q rfl
          rw [Nat.add_zero] at h0
          refine ⟨.ref q, _, rfl, ⟨q, _, rfl, by rw [in3 (.inr (List.mem_of_getElem? h0))]; exact t.rw_ s q h0, ints_reps _⟩, ih (s + 1) fun i u hu => ?_⟩
          have := hs (i + 1) u hu
          rw [show s + (i + 1) = s + 1 + i by omega] at this
          exact this
      have rD : Rep (gx K) F B3 (.lst ((List.range (ls.length + 1)).map fun i => .lst ((rowOf ls i).map K26.D.int))) (.ref D) := ⟨D, ps.map V.ref, rfl, by rw [in3 (.inl rfl)]; exact t.ld, by
        rw [List.range_eq_range', ← pl]
        exact rrows ps 0 fun i q hq => by rw [Nat.zero_add]; exact hq⟩
      have mt : Mat (gx K) F (fun a => H3 a = none) [.dat (.lst (ls.map pairD)), .dat (.lst ((List.range (ls.length + 1)).map fun i => .lst ((rowOf ls i).map K26.D.int))), .no, .no, .no, .no] [some (.ref a), some (.ref D), s2, s3, s4, s5] B3 H3 := by
        refine ⟨ex3, fun x hx => hx, fun x hx => ff x (t.up.none hx), rfl, fun i s hs => ?_, fun i k s u b _ hs _ s1 => ?_⟩
        · match i, hs with
          | 0, hs =>
            cases hs
            exact ⟨_, rfl, _, rfl, a, xs, rfl, eb3 _ _ ha, Reps.mono eb3 _ _ rx⟩
          | 1, hs =>
            cases hs
            exact ⟨_, rfl, _, rfl, rD⟩
          | 2, hs =>
            cases hs
            exact ⟨_, rfl, trivial⟩
          | 3, hs =>
            cases hs
            exact ⟨_, rfl, trivial⟩
          | 4, hs =>
            cases hs
            exact ⟨_, rfl, trivial⟩
          | 5, hs =>
            cases hs
            exact ⟨_, rfl, trivial⟩
          | i + 6, hs => exact absurd hs (by simp)
        · match i, hs with
          | 0, hs => cases hs; cases s1
          | 1, hs => cases hs; cases s1
          | 2, hs => cases hs; cases s1
          | 3, hs => cases hs; cases s1
          | 4, hs => cases hs; cases s1
          | 5, hs => cases hs; cases s1
          | i + 6, hs => exact absurd hs (by simp)
      refine rC_ties_of F _ _ _ B3 H3 mt (pureE DQ) ?_ _ ⟨fun δ σ B' H' m' g q => hQ .non .non B' H' (nw.trans (g.toNw ex3 m'.ex)) rfl q, fun d v δ σ B' H' m' g r' q => hQ d v B' H' (nw.trans (g.toNw ex3 m'.ex)) r' q, fun _ _ _ _ _ _ q => q.elim, fun _ _ _ _ _ _ q => q.elim⟩
      have key : dLcL (gNm 5) dYes (dCB sortedD (dCons (dVar 5) dNil)) [5] [.dat (.lst (ls.map pairD)), .dat (.lst ((List.range (ls.length + 1)).map fun i => .lst ((rowOf ls i).map K26.D.int))), .no, .no, .no, .no] (fun acc => DQ (.lst acc)) ((List.range (ls.length + 1)).map fun i => .lst ((rowOf ls i).map K26.D.int)) [] := by
        refine lcL_by (fun _ => true) (fun d => match d with | .lst ds => .lst (sortD ds) | d => d) _ [] _ (fun d hd K K' k _ => ?_) ?_
        · obtain ⟨i, _, rfl⟩ := List.mem_map.mp hd
          exact ⟨sok_I _ (by have := row_len ls i; omega), rfl, k rfl⟩
        · rw [List.filter_eq_self.mpr fun _ _ => rfl, List.map_map]
          exact hq
      exact ⟨rfl, by rw [List.length_map, List.length_range]; omega, key⟩
end
section
variable {P : Program} {w : World} {K : PySem.W.Frag} {mg : Str → Option Value} {base : Heap}
theorem cal_ties_of (T : Tp K mg base) : C8.Cal P w K mg base 1 "ties_of" (pSp (gx K) 1 fs_ties_of) [] := by
  obtain ⟨fd, F⟩ := T.c.def_ 4 (d := d_ties_of) rfl
  refine ⟨_, fd, ps_ties_of, [], F.ok sc_ties_of (fun vs H Q E h => ?_) (fun cdv A outer s H vs Q E hr h => ⟨_, PSs.nox (pw_ties_of T cdv A outer s H E hr), ties_reads vs H Q E h⟩), T.g_ties_of, F.kp, F.bindsN (fun _ _ _ _ _ _ us hl => match us, hl with | [_], _ => rfl), .nil⟩
  obtain ⟨_, _, _, _, h, _⟩ := h
  exact h
end
end K26
set_option Elab.async false
set_option linter.all false
set_option maxRecDepth 100000
set_option maxHeartbeats 1000000
namespace K26
open PySem PySem.Spec PyProof.Rows L2

/-! ### is_whole -/
abbrev N_is_whole : List Str := ["ties", "met", "waiting", "place"]
abbrev ps_is_whole : List Str := ["ties"]
theorem sc_is_whole : FnScope N_is_whole ps_is_whole (defScope s_is_whole) := ⟨rfl, rfl, rfl, by decide +kernel, rfl, by decide +kernel, by decide +kernel⟩
def m_is_whole : DTS := (dSeq (dPar 1 2 (dOwnL (dCons (dC (.int 0)) dNil)) (dOwnL (dCons (dC (.int 0)) dNil))) (dSeq (dWhile (dTst (dNilO 2)) (dFor (dItL (dOp ixOp (dVar 0) (dPop 2))) (gNm 3) (dIf (dTst (dNotInO (dVar 3) 1)) (dSeq (dAppend 1 (dVar 3)) (dAppend 2 (dVar 3))) dNext))) (dRet (dOp eqOp (dLenO 1) (dCB lenD (dCons (dVar 0) dNil))))))
def fs_is_whole : DSp := fun ds Q => m_is_whole (pureE Q) (startD 4 ds)
def t_is_whole (K : PySem.W.Frag) (P : Program) (w : World) : TS := (tSeq (tPar 1 2 (tCons (tLst (tCons (tC (.int 0)) tNil)) (tCons (tLst (tCons (tC (.int 0)) tNil)) tNil))) (tSeq (tWhile (tTest (tOp (rNeD K) (tVar 2) (tLst tNil))) (tFor (iList K (tOp (rIx K) (tVar 0) (tBM0 K "list" rPop (tVar 2)))) (gName 3) (tIfS (tTest (tOp (rNotInD K) (tVar 3) (tVar 1))) (tSeq (tDrop (tBM K "list" rAppend (tVar 1) (tCons (tVar 3) tNil))) (tDrop (tBM K "list" rAppend (tVar 2) (tCons (tVar 3) tNil)))) tNext))) (tRet (tOp (rEqD K) (tCB (rLen2 K) (tCons (tVar 1) tNil)) (tCB (rLen2 K) (tCons (tVar 0) tNil))))))
section
variable {P : Program} {w : World} {K : PySem.W.Frag} {mg : Str → Option Value} {base : Heap}
theorem bd_is_whole (T : Tp K mg base) {f : Addr} : Body P w K mg base (gx K) N_is_whole "is_whole" (defScope s_is_whole) f 0 (defBody s_is_whole) m_is_whole := fun cdv A outer s H E hr => by
  have nd := sc_is_whole.nd
  refine ⟨t_is_whole K P w, ?_, ?_⟩
  · exact (pss_cons (ps_par (i := 1) (j := 2) rfl nd rfl rfl (by decide) rfl rfl (pa_cons (pe_lst (pa_cons pe_int pa_nil)) (pa_cons (pe_lst (pa_cons pe_int pa_nil)) pa_nil)) rfl) (pss_cons (ps_while PassesOwn.never (pt_cmpR (op_neD (hu4 hr)) (pv 2) (pe_lst pa_nil) (nomark _)) (pss_one (ps_for PassesOwn.never rfl (pi_list (pe_ix ix_seq (pv 0) (pe_bm0 PySem.F.plainAttrs_list PySem.F.slot_list_pop PySem.F.type_list_pop mt_pop (pv 2)) (fun _ _ => rfl))) (pg_name (i := 3) nd rfl (by first | exact Or.inl rfl | exact Or.inr rfl)) (pss_one (ps_if (pt_cmpR (op_notInD (hu5 hr)) (pv 3) (pv 1) (by with_unfolding_all rfl)) (pss_cons (ps_expr (pe_bm PySem.F.plainAttrs_list PySem.F.slot_list_append PySem.F.type_list_append mt_append (pv 1) (pa_cons (pv 3) pa_nil))) (pss_one (ps_expr (pe_bm PySem.F.plainAttrs_list PySem.F.slot_list_append PySem.F.type_list_append mt_append (pv 2) (pa_cons (pv 3) pa_nil))))) pss_nil))))) (pss_one (ps_ret (pe_cmpR (op_eqD (hu4 hr)) (pe_callB cl_len rfl T.f_len bt_len (pa_cons (pv 1) pa_nil)) (pe_callB cl_len rfl T.f_len bt_len (pa_cons (pv 0) pa_nil)) (nomark _))))))
  · exact (rs_seq (rs_par (by decide) (ref_ownL (ref_cons (ref_c fun _ _ => rfl) ref_nil)) (ref_ownL (ref_cons (ref_c fun _ _ => rfl) ref_nil))) (rs_seq (rs_while (ref_tst ref_nilO) (rs_for (vs := [3]) (ri_list (ref_op (ref_var 0) ref_pop rr_ix)) (rn_name (by decide)) (rs_if (ref_tst (ref_notInO (ref_var 3))) (rs_seq (rs_append (ref_var 3)) (rs_append (ref_var 3))) rs_next))) (rs_ret (ref_op ref_lenO (ref_cb (ref_cons (ref_var 0) ref_nil) rc_len) rr_eq))))
theorem cal_is_whole (T : Tp K mg base) : C8.Cal P w K mg base 1 "is_whole" (pSp (gx K) 1 fs_is_whole) [] := by
  obtain ⟨fd, F⟩ := T.c.def_ 5 (d := d_is_whole) rfl
  exact ⟨_, fd, ps_is_whole, [], fn_pure F sc_is_whole (bd_is_whole T) (fun ds DQ _ h => h), T.g_is_whole, F.kp, F.bindsN (fun _ _ _ _ _ _ us hl => match us, hl with | [_], _ => rfl), .nil⟩
end
/-! ### ahead_of -/
abbrev N_ahead_of : List Str := ["ties", "goal", "found", "waiting", "here", "place"]
abbrev ps_ahead_of : List Str := ["ties", "goal"]
theorem sc_ahead_of : FnScope N_ahead_of ps_ahead_of (defScope s_ahead_of) := ⟨rfl, rfl, rfl, by decide +kernel, rfl, by decide +kernel, by decide +kernel⟩
def m_ahead_of : DTS := (dSeq (dPar 2 3 (dOwnR (dCons (dC .non) dNil) (dCB lenD (dCons (dVar 0) dNil))) (dOwnL (dCons (dVar 1) dNil))) (dSeq (dAsg (dVar 1) (gSb 2 (dVar 1))) (dSeq (dWhile (dTst (dNilO 3)) (dSeq (dSet 4 (dDat (dPop 3))) (dFor (dItL (dOp ixOp (dVar 0) (dVar 4))) (gNm 5) (dIf (dTst (dIsN (dIxO 2 (dVar 5)))) (dSeq (dAsg (dVar 4) (gSb 2 (dVar 5))) (dAppend 3 (dVar 5))) dNext)))) (dRet (dVar 2)))))
def fs_ahead_of : DSp := fun ds Q => m_ahead_of (pureE Q) (startD 6 ds)
def t_ahead_of (K : PySem.W.Frag) (P : Program) (w : World) : TS := (tSeq (tPar 2 3 (tCons (tOp rRep (tLst (tCons (tC .non) tNil)) (tCB (rLen2 K) (tCons (tVar 0) tNil))) (tCons (tLst (tCons (tVar 1) tNil)) tNil))) (tSeq (tAsg (tVar 1) (gSub (tVar 2) (tVar 1) rSetL)) (tSeq (tWhile (tTest (tOp (rNeD K) (tVar 3) (tLst tNil))) (tSeq (tAsg (tBM0 K "list" rPop (tVar 3)) (gName 4)) (tFor (iList K (tOp (rIx K) (tVar 0) (tVar 4))) (gName 5) (tIfS (tB (tIsN (tOp (rIx K) (tVar 2) (tVar 5)))) (tSeq (tAsg (tVar 4) (gSub (tVar 2) (tVar 5) rSetL)) (tDrop (tBM K "list" rAppend (tVar 3) (tCons (tVar 5) tNil)))) tNext)))) (tRet (tVar 2)))))
section
variable {P : Program} {w : World} {K : PySem.W.Frag} {mg : Str → Option Value} {base : Heap}
theorem bd_ahead_of (T : Tp K mg base) {f : Addr} : Body P w K mg base (gx K) N_ahead_of "ahead_of" (defScope s_ahead_of) f 0 (defBody s_ahead_of) m_ahead_of := fun cdv A outer s H E hr => by
  have nd := sc_ahead_of.nd
  refine ⟨t_ahead_of K P w, ?_, ?_⟩
  · exact (pss_cons (ps_par (i := 2) (j := 3) rfl nd rfl rfl (by decide) rfl rfl (pa_cons (pe_op op_rep (pe_lst (pa_cons pe_non pa_nil)) (pe_callB cl_len rfl T.f_len bt_len (pa_cons (pv 0) pa_nil))) (pa_cons (pe_lst (pa_cons (pv 1) pa_nil)) pa_nil)) rfl) (pss_cons (ps_asg (pv 1) (pg_sub (pv 2) (pv 1) set_list)) (pss_cons (ps_while PassesOwn.never (pt_cmpR (op_neD (hu4 hr)) (pv 3) (pe_lst pa_nil) (nomark _)) (pss_cons (ps_set (i := 4) nd rfl (Or.inl rfl) (pe_bm0 PySem.F.plainAttrs_list PySem.F.slot_list_pop PySem.F.type_list_pop mt_pop (pv 3))) (pss_one (ps_for PassesOwn.never rfl (pi_list (pe_ix ix_seq (pv 0) (pv 4) (fun _ _ => rfl))) (pg_name (i := 5) nd rfl (by first | exact Or.inl rfl | exact Or.inr rfl)) (pss_one (ps_if (pt_cmp (pc_isN (pe_ix ix_seq (pv 2) (pv 5) (fun _ _ => rfl)))) (pss_cons (ps_asg (pv 4) (pg_sub (pv 2) (pv 5) set_list)) (pss_one (ps_expr (pe_bm PySem.F.plainAttrs_list PySem.F.slot_list_append PySem.F.type_list_append mt_append (pv 3) (pa_cons (pv 5) pa_nil))))) pss_nil)))))) (pss_one (ps_ret (pv 2))))))
  · exact (rs_seq (rs_par (by decide) (ref_ownR (ref_cons (ref_c fun _ _ => rfl) ref_nil) (ref_cb (ref_cons (ref_var 0) ref_nil) rc_len)) (ref_ownL (ref_cons (ref_var 1) ref_nil))) (rs_seq (rs_asg (ref_var 1) (rg_sub (ref_var 1))) (rs_seq (rs_while (ref_tst ref_nilO) (rs_seq (rs_set (ref_dat ref_pop)) (rs_for (vs := [5]) (ri_list (ref_op (ref_var 0) (ref_var 4) rr_ix)) (rn_name (by decide)) (rs_if (ref_tB (ref_isN (ref_ixO (ref_var 5)))) (rs_seq (rs_asg (ref_var 4) (rg_sub (ref_var 5))) (rs_append (ref_var 5))) rs_next)))) (rs_ret (ref_var 2)))))
theorem cal_ahead_of (T : Tp K mg base) : C8.Cal P w K mg base 1 "ahead_of" (pSp (gx K) 2 fs_ahead_of) [] := by
  obtain ⟨fd, F⟩ := T.c.def_ 6 (d := d_ahead_of) rfl
  exact ⟨_, fd, ps_ahead_of, [], fn_pure F sc_ahead_of (bd_ahead_of T) (fun ds DQ _ h => h), T.g_ahead_of, F.kp, F.bindsN (fun _ _ _ _ _ _ us hl => match us, hl with | [_, _], _ => rfl), .nil⟩
end
/-! ### lanes_in -/
abbrev N_lanes_in : List Str := ["value", "found", "ties", "yards", "one", "lane", "row"]
abbrev ps_lanes_in : List Str := ["value"]
theorem sc_lanes_in : FnScope N_lanes_in ps_lanes_in (defScope s_lanes_in) := ⟨rfl, rfl, rfl, by decide +kernel, rfl, by decide +kernel, by decide +kernel⟩
def m_lanes_in : DTS := (dSeq (dIf (dOr (dNot (dTst (dCall fs_is_list [] (dCons (dVar 0) dNil)))) (dTst (dOp cGt (dCB lenD (dCons (dVar 0) dNil)) (dOp iMul (dC (.int 7)) (dC (.int 4)))))) (dRet (dC .non)) dNext) (dSeq (dSet 1 (dDat (dLc (dItL (dVar 0)) (gNm 4) dYes (dCall fs_lane_in [] (dCons (dVar 4) dNil)) [4]))) (dSeq (dIf (dOr (dTst (dOp inOp (dC .non) (dVar 1))) (dOr (dTst (dOp neOp (dLenSet (dVar 1)) (dCB lenD (dCons (dVar 1) dNil)))) (dTst (dCB anyD (dCons (dLc (dItL (dVar 1)) (gNm 5) dYes (dOp cGt (dOp ixOp (dVar 5) (dC (.int 1))) (dCB lenD (dCons (dVar 1) dNil))) [5]) dNil))))) (dRet (dC .non)) dNext) (dSeq (dSet 2 (dDat (dCall fs_ties_of [] (dCons (dVar 1) dNil)))) (dSeq (dSet 3 (dDat (dLc (dItL (dVar 2)) (gNm 6) (dTst (dOp cGt (dCB lenD (dCons (dVar 6) dNil)) (dC (.int 1)))) (dVar 6) [6]))) (dSeq (dIf (dOr (dNot (dTst (dChain cLe cLe (dC (.int 1)) (dCB lenD (dCons (dVar 3) dNil)) (dC (.int 7))))) (dOr (dTst (dCB anyD (dCons (dLc (dItL (dVar 2)) (gNm 6) dYes (dOp cGt (dCB lenD (dCons (dVar 6) dNil)) (dC (.int 4))) [6]) dNil))) (dNot (dTst (dCall fs_is_whole [] (dCons (dVar 2) dNil)))))) (dRet (dC .non)) dNext) (dRet (dCB sortedD (dCons (dVar 1) dNil)))))))))
def fs_lanes_in : DSp := fun ds Q => m_lanes_in (pureE Q) (startD 7 ds)
def t_lanes_in (K : PySem.W.Frag) (P : Program) (w : World) : TS := (tSeq (tIfS (tOr (tNot (tB (tCall (pSp (gx K) 1 fs_is_list) [] E0 (tCons (tVar 0) tNil)))) (tTest (tOp rGt (tCB (rLen2 K) (tCons (tVar 0) tNil)) (tOp rMul (tC (.int 7)) (tC (.int 4)))))) (tRet (tC .non)) tNext) (tSeq (tAsg (tLc (iList K (tVar 0)) (gName 4) tYes (tCall (pSp (gx K) 1 fs_lane_in) [] E0 (tCons (tVar 4) tNil)) [4]) (gName 1)) (tSeq (tIfS (tOr (tTest (tOp (rInD K) (tC .non) (tVar 1))) (tOr (tTest (tOp (rNeD K) (tCB (rLenT K P w) (tCons (tCB (rSetOfT K P w) (tCons (tVar 1) tNil)) tNil)) (tCB (rLen2 K) (tCons (tVar 1) tNil)))) (tB (tCB (rAny K) (tCons (tLc (iList K (tVar 1)) (gName 5) tYes (tOp rGt (tOp (rIx K) (tVar 5) (tC (.int 1))) (tCB (rLen2 K) (tCons (tVar 1) tNil))) [5]) tNil))))) (tRet (tC .non)) tNext) (tSeq (tAsg (tCall (pSp (gx K) 1 fs_ties_of) [] E0 (tCons (tVar 1) tNil)) (gName 2)) (tSeq (tAsg (tLc (iList K (tVar 2)) (gName 6) (tTest (tOp rGt (tCB (rLen2 K) (tCons (tVar 6) tNil)) (tC (.int 1)))) (tVar 6) [6]) (gName 3)) (tSeq (tIfS (tOr (tNot (tTest (tChain rLe rLe (tC (.int 1)) (tCB (rLen2 K) (tCons (tVar 3) tNil)) (tC (.int 7))))) (tOr (tB (tCB (rAny K) (tCons (tLc (iList K (tVar 2)) (gName 6) tYes (tOp rGt (tCB (rLen2 K) (tCons (tVar 6) tNil)) (tC (.int 4))) [6]) tNil))) (tNot (tB (tCall (pSp (gx K) 1 fs_is_whole) [] E0 (tCons (tVar 2) tNil)))))) (tRet (tC .non)) tNext) (tRet (tCB (rSortedD K) (tCons (tVar 1) tNil)))))))))
section
variable {P : Program} {w : World} {K : PySem.W.Frag} {mg : Str → Option Value} {base : Heap}
theorem bd_lanes_in (T : Tp K mg base) {f : Addr} : Body P w K mg base (gx K) N_lanes_in "lanes_in" (defScope s_lanes_in) f 3 (defBody s_lanes_in) m_lanes_in := fun cdv A outer s H E hr => by
  obtain ⟨_, hMOST_LANES, rMOST_LANES⟩ := T.i_MOST_LANES
  obtain ⟨_, hMOST_YARDS, rMOST_YARDS⟩ := T.i_MOST_YARDS
  have nd := sc_lanes_in.nd
  refine ⟨t_lanes_in K P w, ?_, ?_⟩
  · exact (pss_cons (ps_if (PW.pt (pw_or (pt_not (pt_val (C8.pe_c (cal_is_list T) hr (by decide) rfl (pa_cons (pv 0) pa_nil)))) (pw_or1 (pt_cmpR op_gt (pe_callB cl_len rfl T.f_len bt_len (pa_cons (pv 0) pa_nil)) (pe_op op_mul (pe_glob rfl hMOST_YARDS rMOST_YARDS) (pe_glob rfl hMOST_LANES rMOST_LANES)) (nomark _))))) (pss_one (ps_ret pe_non)) pss_nil) (pss_cons (ps_set (i := 1) nd rfl (Or.inr rfl) (pe_lc (own := [("one", 4)]) (g := (gName 4)) (tt := tYes) (te := (tCall (pSp (gx K) 1 fs_lane_in) [] E0 (tCons (tVar 4) tNil))) rfl nd (pi_list (pv 0)) (blkOk_by (N := N_lanes_in) (sc := defScope s_lanes_in) (by decide +kernel)) (fun _ _ _ _ _ => (pg_name (i := 4) nd rfl (by first | exact Or.inl rfl | exact Or.inr rfl))) (fun _ _ _ _ _ => pts_nil) (fun _ _ _ _ _ => (C8.pe_c (cal_lane_in T) hr (by decide) rfl (pa_cons (pv 4) pa_nil))))) (pss_cons (ps_if (PW.pt (pw_or (pt_cmpR (op_inD (hu5 hr)) pe_non (pv 1) (by with_unfolding_all rfl)) (pw_or (pt_cmpR (op_neD (hu4 hr)) (pe_callB cr_lenT rfl T.f_len bt_len (pa_cons (pe_callTy (cr_setOfT rfl (hu4 hr)) rfl T.f_set bt_set (pa_cons (pv 1) pa_nil)) pa_nil)) (pe_callB cl_len rfl T.f_len bt_len (pa_cons (pv 1) pa_nil)) (nomark _)) (pw_or1 (pt_val (pe_callB (cr_any rfl) rfl T.f_any bt_any (pa_cons (pe_lc (own := [("lane", 5)]) (g := (gName 5)) (tt := tYes) (te := (tOp rGt (tOp (rIx K) (tVar 5) (tC (.int 1))) (tCB (rLen2 K) (tCons (tVar 1) tNil)))) rfl nd (pi_list (pv 1)) (blkOk_by (N := N_lanes_in) (sc := defScope s_lanes_in) (by decide +kernel)) (fun _ _ _ _ _ => (pg_name (i := 5) nd rfl (by first | exact Or.inl rfl | exact Or.inr rfl))) (fun _ _ _ _ _ => pts_nil) (fun _ _ _ _ _ => (pe_cmpR op_gt (pe_ix ix_seq (pv 5) pe_int (fun _ _ => rfl)) (pe_callB cl_len rfl T.f_len bt_len (pa_cons (pv 1) pa_nil)) (nomark _)))) pa_nil))))))) (pss_one (ps_ret pe_non)) pss_nil) (pss_cons (ps_set (i := 2) nd rfl (Or.inl rfl) (C8.pe_c (cal_ties_of T) hr (by decide) rfl (pa_cons (pv 1) pa_nil))) (pss_cons (ps_setLc (i := 3) (own := [("row", 6)]) (g := (gName 6)) (tt := (tTest (tOp rGt (tCB (rLen2 K) (tCons (tVar 6) tNil)) (tC (.int 1))))) (te := (tVar 6)) rfl nd rfl rfl (sw_true rfl rfl rfl (by decide +kernel)) (pi_list (pv 2)) (blkOk_by (N := N_lanes_in) (sc := defScope s_lanes_in) (by decide +kernel)) (fun _ _ _ _ _ => (pg_name (i := 6) nd rfl (by first | exact Or.inl rfl | exact Or.inr rfl))) (fun _ _ _ _ _ => (pts_one (pt_cmpR op_gt (pe_callB cl_len rfl T.f_len bt_len (pa_cons (pv 6) pa_nil)) pe_int (nomark _)))) (fun _ _ _ _ _ => (pv 6))) (pss_cons (ps_if (PW.pt (pw_or (pt_not (pt_chain op_le op_le pe_int (pe_callB cl_len rfl T.f_len bt_len (pa_cons (pv 3) pa_nil)) (pe_glob rfl hMOST_YARDS rMOST_YARDS))) (pw_or (pt_val (pe_callB (cr_any rfl) rfl T.f_any bt_any (pa_cons (pe_lc (own := [("row", 6)]) (g := (gName 6)) (tt := tYes) (te := (tOp rGt (tCB (rLen2 K) (tCons (tVar 6) tNil)) (tC (.int 4)))) rfl nd (pi_list (pv 2)) (blkOk_by (N := N_lanes_in) (sc := defScope s_lanes_in) (by decide +kernel)) (fun _ _ _ _ _ => (pg_name (i := 6) nd rfl (by first | exact Or.inl rfl | exact Or.inr rfl))) (fun _ _ _ _ _ => pts_nil) (fun _ _ _ _ _ => (pe_cmpR op_gt (pe_callB cl_len rfl T.f_len bt_len (pa_cons (pv 6) pa_nil)) (pe_glob rfl hMOST_LANES rMOST_LANES) (nomark _)))) pa_nil))) (pw_or1 (pt_not (pt_val (C8.pe_c (cal_is_whole T) hr (by decide) rfl (pa_cons (pv 2) pa_nil)))))))) (pss_one (ps_ret pe_non)) pss_nil) (pss_one (ps_ret (pe_callB (cr_sortedD (hu4 hr)) rfl T.f_sorted bt_sorted (pa_cons (pv 1) pa_nil))))))))))
  · exact (rs_seq (rs_if (ref_or (ref_not (ref_tB (ref_call (es := []) (fun _ _ => rfl) (ref_cons (ref_var 0) ref_nil)))) (ref_tst (ref_op (ref_cb (ref_cons (ref_var 0) ref_nil) rc_len) (ref_op (ref_c fun _ _ => rfl) (ref_c fun _ _ => rfl) rr_i) rr_c))) (rs_ret (ref_c fun _ _ => rfl)) rs_next) (rs_seq (rs_set (ref_dat (ref_lc (ri_list (ref_var 0)) (rn_name (by decide)) rt_yes (ref_call (es := []) (fun _ _ => rfl) (ref_cons (ref_var 4) ref_nil))))) (rs_seq (rs_if (ref_or (ref_tst (ref_op (ref_c fun _ _ => rfl) (ref_var 1) rr_in)) (ref_or (ref_tst (ref_op (ref_lenSet (ref_var 1)) (ref_cb (ref_cons (ref_var 1) ref_nil) rc_len) rr_ne)) (ref_tB (ref_cb (ref_cons (ref_lc (ri_list (ref_var 1)) (rn_name (by decide)) rt_yes (ref_op (ref_op (ref_var 5) (ref_c fun _ _ => rfl) rr_ix) (ref_cb (ref_cons (ref_var 1) ref_nil) rc_len) rr_c)) ref_nil) rc_any)))) (rs_ret (ref_c fun _ _ => rfl)) rs_next) (rs_seq (rs_set (ref_dat (ref_call (es := []) (fun _ _ => rfl) (ref_cons (ref_var 1) ref_nil)))) (rs_seq (rs_set (ref_dat (ref_lc (ri_list (ref_var 2)) (rn_name (by decide)) (ref_tst (ref_op (ref_cb (ref_cons (ref_var 6) ref_nil) rc_len) (ref_c fun _ _ => rfl) rr_c)) (ref_var 6)))) (rs_seq (rs_if (ref_or (ref_not (ref_tst (ref_chain (ref_c fun _ _ => rfl) (ref_cb (ref_cons (ref_var 3) ref_nil) rc_len) (ref_c fun _ _ => rfl) rr_c rr_c))) (ref_or (ref_tB (ref_cb (ref_cons (ref_lc (ri_list (ref_var 2)) (rn_name (by decide)) rt_yes (ref_op (ref_cb (ref_cons (ref_var 6) ref_nil) rc_len) (ref_c fun _ _ => rfl) rr_c)) ref_nil) rc_any)) (ref_not (ref_tB (ref_call (es := []) (fun _ _ => rfl) (ref_cons (ref_var 2) ref_nil)))))) (rs_ret (ref_c fun _ _ => rfl)) rs_next) (rs_ret (ref_cb (ref_cons (ref_var 1) ref_nil) rc_sorted))))))))
theorem cal_lanes_in (T : Tp K mg base) : C8.Cal P w K mg base 4 "lanes_in" (pSp (gx K) 1 fs_lanes_in) [] := by
  obtain ⟨fd, F⟩ := T.c.def_ 7 (d := d_lanes_in) rfl
  exact ⟨_, fd, ps_lanes_in, [], fn_pure F sc_lanes_in (bd_lanes_in T) (fun ds DQ _ h => h), T.g_lanes_in, F.kp, F.bindsN (fun _ _ _ _ _ _ us hl => match us, hl with | [_], _ => rfl), .nil⟩
end
/-! ### Country -/
abbrev N_Country_init : List Str := ["self", "lanes", "told", "goal"]
abbrev ps_Country_init : List Str := ["self", "lanes"]
theorem sc_Country_init : FnScope N_Country_init ps_Country_init (defScope s_Country_init) := ⟨rfl, rfl, rfl, by decide +kernel, rfl, by decide +kernel, by decide +kernel⟩
def m_Country_init : DTS := (dSeq (dSet 2 (dDat (dCall fs_lanes_in [] (dCons (dVar 1) dNil)))) (dSeq (dIf (dTst (dIsN (dVar 2))) dNever dNext) (dSeq (dFldS 0 0 0 (dVar 2)) (dSeq (dFldS 0 0 1 (dCall fs_ties_of [] (dCons (dVar 2) dNil))) (dFldS 0 0 2 (dLc (dRg1 (dCons (dOp iAdd (dCB lenD (dCons (dVar 2) dNil)) (dC (.int 1))) dNil)) (gNm 3) dYes (dCall fs_ahead_of [] (dCons (dFldV 0 0 1) (dCons (dVar 3) dNil))) [3]))))))
def fs_Country_init : List D → (List D → Prop) → Prop := fun ds Q => ∀ p, m_Country_init (makeE p 0 Q) (startM p 0 4 ds)
def t_Country_init (K : PySem.W.Frag) (P : Program) (w : World) : TS := (tSeq (tAsg (tCall (pSp (gx K) 1 fs_lanes_in) [] E0 (tCons (tVar 1) tNil)) (gName 2)) (tSeq (tIfS (tB (tIsN (tVar 2))) tNever tNext) (tSeq (sFld K (tVar 0) (tVar 2) "own_lanes") (tSeq (sFld K (tVar 0) (tCall (pSp (gx K) 1 fs_ties_of) [] E0 (tCons (tVar 2) tNil)) "own_ties") (sFld K (tVar 0) (tLc (iRng1 (tCons (tOp rAdd (tCB (rLen2 K) (tCons (tVar 2) tNil)) (tC (.int 1))) tNil)) (gName 3) tYes (tCall (pSp (gx K) 2 fs_ahead_of) [] E0 (tCons (tFld K (tVar 0) "own_ties") (tCons (tVar 3) tNil))) [3]) "own_ahead")))))
section
variable {P : Program} {w : World} {K : PySem.W.Frag} {mg : Str → Option Value} {base : Heap}
theorem bd_Country_init (T : Tp K mg base) {f : Addr} : Body P w K mg base (gx K) N_Country_init "Country.__init__" (defScope s_Country_init) f 4 (defBody s_Country_init) m_Country_init := fun cdv A outer s H E hr => by
  have nd := sc_Country_init.nd
  refine ⟨t_Country_init K P w, ?_, ?_⟩
  · exact (pss_cons (ps_set (i := 2) nd rfl (Or.inl rfl) (C8.pe_c (cal_lanes_in T) hr (by decide) rfl (pa_cons (pv 1) pa_nil))) (pss_cons (ps_if (pt_cmp (pc_isN (pv 2))) (pss_one ps_never) pss_nil) (pss_cons (ps_fld (pv 0) (pv 2) rfl) (pss_cons (ps_fld (pv 0) (C8.pe_c (cal_ties_of T) hr (by decide) rfl (pa_cons (pv 2) pa_nil)) rfl) (pss_one (ps_fld (pv 0) (pe_lc (own := [("goal", 3)]) (g := (gName 3)) (tt := tYes) (te := (tCall (pSp (gx K) 2 fs_ahead_of) [] E0 (tCons (tFld K (tVar 0) "own_ties") (tCons (tVar 3) tNil)))) rfl nd (pi_range1 rfl T.f_range (pa_cons (pe_op op_add (pe_callB cl_len rfl T.f_len bt_len (pa_cons (pv 2) pa_nil)) pe_int) pa_nil)) (blkOk_by (N := N_Country_init) (sc := defScope s_Country_init) (by decide +kernel)) (fun _ _ _ _ _ => (pg_name (i := 3) nd rfl (by first | exact Or.inl rfl | exact Or.inr rfl))) (fun _ _ _ _ _ => pts_nil) (fun _ _ _ _ _ => (C8.pe_c (cal_ahead_of T) hr (by decide) rfl (pa_cons (pe_fld (pv 0) rfl) (pa_cons (pv 3) pa_nil))))) rfl))))))
  · exact (rs_seq (rs_set (ref_dat (ref_call (es := []) (fun _ _ => rfl) (ref_cons (ref_var 1) ref_nil)))) (rs_seq (rs_if (ref_tB (ref_isN (ref_var 2))) rs_never rs_next) (rs_seq (rs_fldS (k := 0) T.ok0 rfl (ref_var 2)) (rs_seq (rs_fldS (k := 0) T.ok0 rfl (ref_call (es := []) (fun _ _ => rfl) (ref_cons (ref_var 2) ref_nil))) (rs_fldS (k := 0) T.ok0 rfl (ref_lc (ri_rg1 (ref_cons (ref_op (ref_cb (ref_cons (ref_var 2) ref_nil) rc_len) (ref_c fun _ _ => rfl) rr_i0) ref_nil)) (rn_name (by decide)) rt_yes (ref_call (es := []) (fun _ _ => rfl) (ref_cons (ref_fldV (k := 0) T.ok0 rfl) (ref_cons (ref_var 3) ref_nil)))))))))
theorem mak_Country (T : Tp K mg base) : C8.Mak P w K mg base 5 "Country" (He.ga K "Country") (mSp (gx K) 0 1 fs_Country_init) [] := by
  obtain ⟨fd, F⟩ := T.c.def_ 8 (d := d_Country_init) rfl
  exact ⟨_, fd, ps_Country_init, [], T.m_Country, fn_make F sc_Country_init (bd_Country_init T) rfl (fun p ds DQ _ h => h p), T.g_Country, F.bindsN (fun _ _ _ _ _ _ us hl => match us, hl with | [_, _], _ => rfl), .nil⟩
end
/-! ### beside -/
abbrev N_beside : List Str := ["country", "place"]
abbrev ps_beside : List Str := ["country", "place"]
theorem sc_beside : FnScope N_beside ps_beside (defScope s_beside) := ⟨rfl, rfl, rfl, by decide +kernel, rfl, by decide +kernel, by decide +kernel⟩
def m_beside : DTS := (dRet (dCB listD (dCons (dOp ixOp (dFldV 0 0 1) (dVar 1)) dNil)))
def fs_beside : DSp := fun ds Q => m_beside (pureE Q) (startD 2 ds)
def t_beside (K : PySem.W.Frag) (P : Program) (w : World) : TS := (tRet (tCB (rListOf K) (tCons (tOp (rIx K) (tFld K (tVar 0) "own_ties") (tVar 1)) tNil)))
section
variable {P : Program} {w : World} {K : PySem.W.Frag} {mg : Str → Option Value} {base : Heap}
theorem bd_beside (T : Tp K mg base) {f : Addr} : Body P w K mg base (gx K) N_beside "beside" (defScope s_beside) f 0 (defBody s_beside) m_beside := fun cdv A outer s H E hr => by
  have nd := sc_beside.nd
  refine ⟨t_beside K P w, ?_, ?_⟩
  · exact (pss_one (ps_ret (pe_callTy cl_list rfl T.f_list bt_list (pa_cons (pe_ix ix_seq (pe_fld (pv 0) rfl) (pv 1) (fun _ _ => rfl)) pa_nil))))
  · exact (rs_ret (ref_cb (ref_cons (ref_op (ref_fldV (k := 0) T.ok0 rfl) (ref_var 1) rr_ix) ref_nil) rc_list))
theorem cal_beside (T : Tp K mg base) : C8.Cal P w K mg base 1 "beside" (pSp (gx K) 2 fs_beside) [] := by
  obtain ⟨fd, F⟩ := T.c.def_ 9 (d := d_beside) rfl
  exact ⟨_, fd, ps_beside, [], fn_pure F sc_beside (bd_beside T) (fun ds DQ _ h => h), T.g_beside, F.kp, F.bindsN (fun _ _ _ _ _ _ us hl => match us, hl with | [_, _], _ => rfl), .nil⟩
end
/-! ### yards_in -/
abbrev N_yards_in : List Str := ["country", "place", "row"]
abbrev ps_yards_in : List Str := ["country"]
theorem sc_yards_in : FnScope N_yards_in ps_yards_in (defScope s_yards_in) := ⟨rfl, rfl, rfl, by decide +kernel, rfl, by decide +kernel, by decide +kernel⟩
def m_yards_in : DTS := (dRet (dLc (dEnum (dCons (dFldV 0 0 1) dNil)) (gTp (gCn (gNm 1) (gCn (gNm 2) gNl))) (dTst (dOp cGt (dCB lenD (dCons (dVar 2) dNil)) (dC (.int 1)))) (dVar 1) [1, 2]))
def fs_yards_in : DSp := fun ds Q => m_yards_in (pureE Q) (startD 3 ds)
def t_yards_in (K : PySem.W.Frag) (P : Program) (w : World) : TS := (tRet (tLc (iEnum K (tCons (tFld K (tVar 0) "own_ties") tNil)) (gTup K 2 (gCons (gName 1) (gCons (gName 2) gNil))) (tTest (tOp rGt (tCB (rLen2 K) (tCons (tVar 2) tNil)) (tC (.int 1)))) (tVar 1) [1, 2]))
section
variable {P : Program} {w : World} {K : PySem.W.Frag} {mg : Str → Option Value} {base : Heap}
theorem bd_yards_in (T : Tp K mg base) {f : Addr} : Body P w K mg base (gx K) N_yards_in "yards_in" (defScope s_yards_in) f 0 (defBody s_yards_in) m_yards_in := fun cdv A outer s H E hr => by
  have nd := sc_yards_in.nd
  refine ⟨t_yards_in K P w, ?_, ?_⟩
  · exact (pss_one (ps_ret (pe_lc (own := [("place", 1), ("row", 2)]) (g := (gTup K 2 (gCons (gName 1) (gCons (gName 2) gNil)))) (tt := (tTest (tOp rGt (tCB (rLen2 K) (tCons (tVar 2) tNil)) (tC (.int 1))))) (te := (tVar 1)) rfl nd (pi_enum rfl T.f_enumerate (pa_cons (pe_fld (pv 0) rfl) pa_nil)) (blkOk_by (N := N_yards_in) (sc := defScope s_yards_in) (by decide +kernel)) (fun _ _ _ _ _ => (pg_tup rfl (pgs_cons (pg_name (i := 1) nd rfl (by first | exact Or.inl rfl | exact Or.inr rfl)) (pgs_cons (pg_name (i := 2) nd rfl (by first | exact Or.inl rfl | exact Or.inr rfl)) pgs_nil)))) (fun _ _ _ _ _ => (pts_one (pt_cmpR op_gt (pe_callB cl_len rfl T.f_len bt_len (pa_cons (pv 2) pa_nil)) pe_int (nomark _)))) (fun _ _ _ _ _ => (pv 1)))))
  · exact (rs_ret (ref_lc (ri_enum (ref_cons (ref_fldV (k := 0) T.ok0 rfl) ref_nil)) (rn_tup (rn_cons1 (by decide) (rn_cons1 (by decide) rn_nil))) (ref_tst (ref_op (ref_cb (ref_cons (ref_var 2) ref_nil) rc_len) (ref_c fun _ _ => rfl) rr_c)) (ref_var 1)))
theorem cal_yards_in (T : Tp K mg base) : C8.Cal P w K mg base 1 "yards_in" (pSp (gx K) 1 fs_yards_in) [] := by
  obtain ⟨fd, F⟩ := T.c.def_ 10 (d := d_yards_in) rfl
  exact ⟨_, fd, ps_yards_in, [], fn_pure F sc_yards_in (bd_yards_in T) (fun ds DQ _ h => h), T.g_yards_in, F.kp, F.bindsN (fun _ _ _ _ _ _ us hl => match us, hl with | [_], _ => rfl), .nil⟩
end
/-! ### is_place -/
abbrev N_is_place : List Str := ["country", "value"]
abbrev ps_is_place : List Str := ["country", "value"]
theorem sc_is_place : FnScope N_is_place ps_is_place (defScope s_is_place) := ⟨rfl, rfl, rfl, by decide +kernel, rfl, by decide +kernel, by decide +kernel⟩
def m_is_place : DTS := (dRet (dAndV (dCall fs_is_count [] (dCons (dVar 1) dNil)) (dOp cLt (dVar 1) (dCB lenD (dCons (dFldV 0 0 1) dNil)))))
def fs_is_place : DSp := fun ds Q => m_is_place (pureE Q) (startD 2 ds)
def t_is_place (K : PySem.W.Frag) (P : Program) (w : World) : TS := (tRet (tAndV (tCall (pSp (gx K) 1 fs_is_count) [] E0 (tCons (tVar 1) tNil)) (tOp rLt (tVar 1) (tCB (rLen2 K) (tCons (tFld K (tVar 0) "own_ties") tNil)))))
section
variable {P : Program} {w : World} {K : PySem.W.Frag} {mg : Str → Option Value} {base : Heap}
theorem bd_is_place (T : Tp K mg base) {f : Addr} : Body P w K mg base (gx K) N_is_place "is_place" (defScope s_is_place) f 2 (defBody s_is_place) m_is_place := fun cdv A outer s H E hr => by
  have nd := sc_is_place.nd
  refine ⟨t_is_place K P w, ?_, ?_⟩
  · exact (pss_one (ps_ret (pe_and (C8.pe_c (cal_is_count T) hr (by decide) rfl (pa_cons (pv 1) pa_nil)) (pe_one (pe_cmpR op_lt (pv 1) (pe_callB cl_len rfl T.f_len bt_len (pa_cons (pe_fld (pv 0) rfl) pa_nil)) (nomark _))))))
  · exact (rs_ret (ref_andV (ref_call (es := []) (fun _ _ => rfl) (ref_cons (ref_var 1) ref_nil)) (ref_op (ref_var 1) (ref_cb (ref_cons (ref_fldV (k := 0) T.ok0 rfl) ref_nil) rc_len) rr_c)))
theorem cal_is_place (T : Tp K mg base) : C8.Cal P w K mg base 3 "is_place" (pSp (gx K) 2 fs_is_place) [] := by
  obtain ⟨fd, F⟩ := T.c.def_ 11 (d := d_is_place) rfl
  exact ⟨_, fd, ps_is_place, [], fn_pure F sc_is_place (bd_is_place T) (fun ds DQ _ h => h), T.g_is_place, F.kp, F.bindsN (fun _ _ _ _ _ _ us hl => match us, hl with | [_, _], _ => rfl), .nil⟩
end
/-! ### is_yard -/
abbrev N_is_yard : List Str := ["country", "value"]
abbrev ps_is_yard : List Str := ["country", "value"]
theorem sc_is_yard : FnScope N_is_yard ps_is_yard (defScope s_is_yard) := ⟨rfl, rfl, rfl, by decide +kernel, rfl, by decide +kernel, by decide +kernel⟩
def m_is_yard : DTS := (dRet (dAndV (dCall fs_is_place [] (dCons (dVar 0) (dCons (dVar 1) dNil))) (dOp cGt (dCB lenD (dCons (dOp ixOp (dFldV 0 0 1) (dVar 1)) dNil)) (dC (.int 1)))))
def fs_is_yard : DSp := fun ds Q => m_is_yard (pureE Q) (startD 2 ds)
def t_is_yard (K : PySem.W.Frag) (P : Program) (w : World) : TS := (tRet (tAndV (tCall (pSp (gx K) 2 fs_is_place) [] E0 (tCons (tVar 0) (tCons (tVar 1) tNil))) (tOp rGt (tCB (rLen2 K) (tCons (tOp (rIx K) (tFld K (tVar 0) "own_ties") (tVar 1)) tNil)) (tC (.int 1)))))
section
variable {P : Program} {w : World} {K : PySem.W.Frag} {mg : Str → Option Value} {base : Heap}
theorem bd_is_yard (T : Tp K mg base) {f : Addr} : Body P w K mg base (gx K) N_is_yard "is_yard" (defScope s_is_yard) f 3 (defBody s_is_yard) m_is_yard := fun cdv A outer s H E hr => by
  have nd := sc_is_yard.nd
  refine ⟨t_is_yard K P w, ?_, ?_⟩
  · exact (pss_one (ps_ret (pe_and (C8.pe_c (cal_is_place T) hr (by decide) rfl (pa_cons (pv 0) (pa_cons (pv 1) pa_nil))) (pe_one (pe_cmpR op_gt (pe_callB cl_len rfl T.f_len bt_len (pa_cons (pe_ix ix_seq (pe_fld (pv 0) rfl) (pv 1) (fun _ _ => rfl)) pa_nil)) pe_int (nomark _))))))
  · exact (rs_ret (ref_andV (ref_call (es := []) (fun _ _ => rfl) (ref_cons (ref_var 0) (ref_cons (ref_var 1) ref_nil))) (ref_op (ref_cb (ref_cons (ref_op (ref_fldV (k := 0) T.ok0 rfl) (ref_var 1) rr_ix) ref_nil) rc_len) (ref_c fun _ _ => rfl) rr_c)))
theorem cal_is_yard (T : Tp K mg base) : C8.Cal P w K mg base 4 "is_yard" (pSp (gx K) 2 fs_is_yard) [] := by
  obtain ⟨fd, F⟩ := T.c.def_ 12 (d := d_is_yard) rfl
  exact ⟨_, fd, ps_is_yard, [], fn_pure F sc_is_yard (bd_is_yard T) (fun ds DQ _ h => h), T.g_is_yard, F.kp, F.bindsN (fun _ _ _ _ _ _ us hl => match us, hl with | [_, _], _ => rfl), .nil⟩
end
/-! ### want_country -/
abbrev N_want_country : List Str := ["value"]
abbrev ps_want_country : List Str := ["value"]
theorem sc_want_country : FnScope N_want_country ps_want_country (defScope s_want_country) := ⟨rfl, rfl, rfl, by decide +kernel, rfl, by decide +kernel, by decide +kernel⟩
def m_want_country : DTS := (dSeq (dIf (dNot (dTst (dIsCl 0 (dVar 0)))) dNever dNext) (dRet (dVar 0)))
def fs_want_country : DSp := fun ds Q => m_want_country (pureE Q) (startD 1 ds)
def t_want_country (K : PySem.W.Frag) (P : Program) (w : World) : TS := (tSeq (tIfS (tNot (tB (tCB (rIsi K) (tCons (tVar 0) (tCons (tC (.ref (He.ga K "Country"))) tNil))))) tNever tNext) (tRet (tVar 0)))
section
variable {P : Program} {w : World} {K : PySem.W.Frag} {mg : Str → Option Value} {base : Heap}
theorem bd_want_country (T : Tp K mg base) {f : Addr} : Body P w K mg base (gx K) N_want_country "want_country" (defScope s_want_country) f 0 (defBody s_want_country) m_want_country := fun cdv A outer s H E hr => by
  have nd := sc_want_country.nd
  refine ⟨t_want_country K P w, ?_, ?_⟩
  · exact (pss_cons (ps_if (pt_not (pt_val (pe_callB cl_isi rfl T.f_isinstance bt_isinstance (pa_cons (pv 0) (pa_cons (pe_glob rfl T.g_Country rfl) pa_nil))))) (pss_one ps_never) pss_nil) (pss_one (ps_ret (pv 0))))
  · exact (rs_seq (rs_if (ref_not (ref_tB (ref_isCl (c := 0) T.ok0 T.is0 (ref_var 0)))) rs_never rs_next) (rs_ret (ref_var 0)))
theorem cal_want_country (T : Tp K mg base) : C8.Cal P w K mg base 1 "want_country" (pSp (gx K) 1 fs_want_country) [] := by
  obtain ⟨fd, F⟩ := T.c.def_ 13 (d := d_want_country) rfl
  exact ⟨_, fd, ps_want_country, [], fn_pure F sc_want_country (bd_want_country T) (fun ds DQ _ h => h), T.g_want_country, F.kp, F.bindsN (fun _ _ _ _ _ _ us hl => match us, hl with | [_], _ => rfl), .nil⟩
end
/-! ### want_yard -/
abbrev N_want_yard : List Str := ["country", "value"]
abbrev ps_want_yard : List Str := ["country", "value"]
theorem sc_want_yard : FnScope N_want_yard ps_want_yard (defScope s_want_yard) := ⟨rfl, rfl, rfl, by decide +kernel, rfl, by decide +kernel, by decide +kernel⟩
def m_want_yard : DTS := (dIf (dNot (dTst (dCall fs_is_yard [] (dCons (dVar 0) (dCons (dVar 1) dNil))))) dNever dNext)
def fs_want_yard : DSp := fun ds Q => m_want_yard (pureE Q) (startD 2 ds)
def t_want_yard (K : PySem.W.Frag) (P : Program) (w : World) : TS := (tIfS (tNot (tB (tCall (pSp (gx K) 2 fs_is_yard) [] E0 (tCons (tVar 0) (tCons (tVar 1) tNil))))) tNever tNext)
section
variable {P : Program} {w : World} {K : PySem.W.Frag} {mg : Str → Option Value} {base : Heap}
theorem bd_want_yard (T : Tp K mg base) {f : Addr} : Body P w K mg base (gx K) N_want_yard "want_yard" (defScope s_want_yard) f 4 (defBody s_want_yard) m_want_yard := fun cdv A outer s H E hr => by
  have nd := sc_want_yard.nd
  refine ⟨t_want_yard K P w, ?_, ?_⟩
  · exact (pss_one (ps_if (pt_not (pt_val (C8.pe_c (cal_is_yard T) hr (by decide) rfl (pa_cons (pv 0) (pa_cons (pv 1) pa_nil))))) (pss_one ps_never) pss_nil))
  · exact (rs_if (ref_not (ref_tB (ref_call (es := []) (fun _ _ => rfl) (ref_cons (ref_var 0) (ref_cons (ref_var 1) ref_nil))))) rs_never rs_next)
theorem cal_want_yard (T : Tp K mg base) : C8.Cal P w K mg base 5 "want_yard" (pSp (gx K) 2 fs_want_yard) [] := by
  obtain ⟨fd, F⟩ := T.c.def_ 14 (d := d_want_yard) rfl
  exact ⟨_, fd, ps_want_yard, [], fn_pure F sc_want_yard (bd_want_yard T) (fun ds DQ _ h => h), T.g_want_yard, F.kp, F.bindsN (fun _ _ _ _ _ _ us hl => match us, hl with | [_, _], _ => rfl), .nil⟩
end
/-! ### pairs_at -/
abbrev N_pairs_at : List Str := ["country", "yard", "near", "found", "origin", "target"]
abbrev ps_pairs_at : List Str := ["country", "yard"]
theorem sc_pairs_at : FnScope N_pairs_at ps_pairs_at (defScope s_pairs_at) := ⟨rfl, rfl, rfl, by decide +kernel, rfl, by decide +kernel, by decide +kernel⟩
def m_pairs_at : DTS := (dSeq (dPar 2 3 (dDat (dCall fs_beside [] (dCons (dVar 0) (dCons (dVar 1) dNil)))) (dOwnL dNil)) (dSeq (dFor (dItL (dVar 2)) (gNm 4) (dExtend 3 (dLc (dItL (dVar 2)) (gNm 5) (dTst (dOp neOp (dVar 5) (dVar 4))) (dTup (dCons (dVar 4) (dCons (dVar 5) dNil))) [5]))) (dRet (dVar 3))))
def fs_pairs_at : DSp := fun ds Q => m_pairs_at (pureE Q) (startD 6 ds)
def t_pairs_at (K : PySem.W.Frag) (P : Program) (w : World) : TS := (tSeq (tPar 2 3 (tCons (tCall (pSp (gx K) 2 fs_beside) [] E0 (tCons (tVar 0) (tCons (tVar 1) tNil))) (tCons (tLst tNil) tNil))) (tSeq (tFor (iList K (tVar 2)) (gName 4) (tDrop (tBM K "list" rExtend (tVar 3) (tCons (tLc (iList K (tVar 2)) (gName 5) (tTest (tOp (rNeD K) (tVar 5) (tVar 4))) (tTup (tCons (tVar 4) (tCons (tVar 5) tNil))) [5]) tNil)))) (tRet (tVar 3))))
section
variable {P : Program} {w : World} {K : PySem.W.Frag} {mg : Str → Option Value} {base : Heap}
theorem bd_pairs_at (T : Tp K mg base) {f : Addr} : Body P w K mg base (gx K) N_pairs_at "pairs_at" (defScope s_pairs_at) f 1 (defBody s_pairs_at) m_pairs_at := fun cdv A outer s H E hr => by
  have nd := sc_pairs_at.nd
  refine ⟨t_pairs_at K P w, ?_, ?_⟩
  · exact (pss_cons (ps_par (i := 2) (j := 3) rfl nd rfl rfl (by decide) rfl rfl (pa_cons (C8.pe_c (cal_beside T) hr (by decide) rfl (pa_cons (pv 0) (pa_cons (pv 1) pa_nil))) (pa_cons (pe_lst pa_nil) pa_nil)) rfl) (pss_cons (ps_for PassesOwn.never rfl (pi_list (pv 2)) (pg_name (i := 4) nd rfl (by first | exact Or.inl rfl | exact Or.inr rfl)) (pss_one (ps_expr (pe_bm PySem.F.plainAttrs_list PySem.F.slot_list_extend PySem.F.type_list_extend mt_extend (pv 3) (pa_cons (pe_lc (own := [("target", 5)]) (g := (gName 5)) (tt := (tTest (tOp (rNeD K) (tVar 5) (tVar 4)))) (te := (tTup (tCons (tVar 4) (tCons (tVar 5) tNil)))) rfl nd (pi_list (pv 2)) (blkOk_by (N := N_pairs_at) (sc := defScope s_pairs_at) (by decide +kernel)) (fun _ _ _ _ _ => (pg_name (i := 5) nd rfl (by first | exact Or.inl rfl | exact Or.inr rfl))) (fun _ _ _ _ _ => (pts_one (pt_cmpR (op_neD (hu4 hr)) (pv 5) (pv 4) (nomark _)))) (fun _ _ _ _ _ => (pe_tup (pa_cons (pv 4) (pa_cons (pv 5) pa_nil))))) pa_nil))))) (pss_one (ps_ret (pv 3)))))
  · exact (rs_seq (rs_par (by decide) (ref_dat (ref_call (es := []) (fun _ _ => rfl) (ref_cons (ref_var 0) (ref_cons (ref_var 1) ref_nil)))) (ref_ownL ref_nil)) (rs_seq (rs_for (vs := [4]) (ri_list (ref_var 2)) (rn_name (by decide)) (rs_extend (ref_lc (ri_list (ref_var 2)) (rn_name (by decide)) (ref_tst (ref_op (ref_var 5) (ref_var 4) rr_ne)) (ref_tup (ref_cons (ref_var 4) (ref_cons (ref_var 5) ref_nil)))))) (rs_ret (ref_var 3))))
theorem cal_pairs_at (T : Tp K mg base) : C8.Cal P w K mg base 2 "pairs_at" (pSp (gx K) 2 fs_pairs_at) [] := by
  obtain ⟨fd, F⟩ := T.c.def_ 15 (d := d_pairs_at) rfl
  exact ⟨_, fd, ps_pairs_at, [], fn_pure F sc_pairs_at (bd_pairs_at T) (fun ds DQ _ h => h), T.g_pairs_at, F.kp, F.bindsN (fun _ _ _ _ _ _ us hl => match us, hl with | [_, _], _ => rfl), .nil⟩
end
/-! ### is_some_of -/
abbrev N_is_some_of : List Str := ["value", "pairs", "one"]
abbrev ps_is_some_of : List Str := ["value", "pairs"]
theorem sc_is_some_of : FnScope N_is_some_of ps_is_some_of (defScope s_is_some_of) := ⟨rfl, rfl, rfl, by decide +kernel, rfl, by decide +kernel, by decide +kernel⟩
def m_is_some_of : DTS := (dSeq (dIf (dOr (dNot (dTst (dIsTy "tuple" (dVar 0)))) (dOr (dTst (dOp neOp (dCB lenD (dCons (dVar 0) dNil)) (dC (.int 3)))) (dNot (dTst (dCB allD (dCons (dLc (dItT (dVar 0)) (gNm 2) dYes (dCall fs_is_count [] (dCons (dVar 2) dNil)) [2]) dNil)))))) (dRet (dC (.bl false))) dNext) (dRet (dAndV (dOp cGt (dOp ixOp (dVar 0) (dC (.int 2))) (dC (.int 0))) (dOp inOp (dTup (dCons (dOp ixOp (dVar 0) (dC (.int 0))) (dCons (dOp ixOp (dVar 0) (dC (.int 1))) dNil))) (dVar 1)))))
def fs_is_some_of : DSp := fun ds Q => m_is_some_of (pureE Q) (startD 3 ds)
def t_is_some_of (K : PySem.W.Frag) (P : Program) (w : World) : TS := (tSeq (tIfS (tOr (tNot (tB (tCB (rIsi K) (tCons (tVar 0) (tCons (tC (.ty "tuple")) tNil))))) (tOr (tTest (tOp (rNeD K) (tCB (rLen2 K) (tCons (tVar 0) tNil)) (tC (.int 3)))) (tNot (tB (tCB (rAll K) (tCons (tLc (iTup K (tVar 0)) (gName 2) tYes (tCall (pSp (gx K) 1 fs_is_count) [] E0 (tCons (tVar 2) tNil)) [2]) tNil)))))) (tRet (tC (.bl false))) tNext) (tRet (tAndV (tOp rGt (tOp (rIx K) (tVar 0) (tC (.int 2))) (tC (.int 0))) (tOp (rInD K) (tTup (tCons (tOp (rIx K) (tVar 0) (tC (.int 0))) (tCons (tOp (rIx K) (tVar 0) (tC (.int 1))) tNil))) (tVar 1)))))
section
variable {P : Program} {w : World} {K : PySem.W.Frag} {mg : Str → Option Value} {base : Heap}
theorem bd_is_some_of (T : Tp K mg base) {f : Addr} : Body P w K mg base (gx K) N_is_some_of "is_some_of" (defScope s_is_some_of) f 2 (defBody s_is_some_of) m_is_some_of := fun cdv A outer s H E hr => by
  have nd := sc_is_some_of.nd
  refine ⟨t_is_some_of K P w, ?_, ?_⟩
  · exact (pss_cons (ps_if (PW.pt (pw_or (pt_not (pt_val (pe_callB cl_isi rfl T.f_isinstance bt_isinstance (pa_cons (pv 0) (pa_cons (pe_bltn rfl T.f_tuple bt_tuple rfl) pa_nil))))) (pw_or (pt_cmpR (op_neD (hu4 hr)) (pe_callB cl_len rfl T.f_len bt_len (pa_cons (pv 0) pa_nil)) pe_int (nomark _)) (pw_or1 (pt_not (pt_val (pe_callB (cr_all rfl) rfl T.f_all bt_all (pa_cons (pe_lc (own := [("one", 2)]) (g := (gName 2)) (tt := tYes) (te := (tCall (pSp (gx K) 1 fs_is_count) [] E0 (tCons (tVar 2) tNil))) rfl nd (pi_tup (pv 0)) (blkOk_by (N := N_is_some_of) (sc := defScope s_is_some_of) (by decide +kernel)) (fun _ _ _ _ _ => (pg_name (i := 2) nd rfl (by first | exact Or.inl rfl | exact Or.inr rfl))) (fun _ _ _ _ _ => pts_nil) (fun _ _ _ _ _ => (C8.pe_c (cal_is_count T) hr (by decide) rfl (pa_cons (pv 2) pa_nil)))) pa_nil)))))))) (pss_one (ps_ret pe_bl)) pss_nil) (pss_one (ps_ret (pe_and (pe_cmpR op_gt (pe_ix ix_seq (pv 0) pe_int (fun _ _ => rfl)) pe_int (nomark _)) (pe_one (pe_cmpR (op_inD (hu5 hr)) (pe_tup (pa_cons (pe_ix ix_seq (pv 0) pe_int (fun _ _ => rfl)) (pa_cons (pe_ix ix_seq (pv 0) pe_int (fun _ _ => rfl)) pa_nil))) (pv 1) (by with_unfolding_all rfl)))))))
  · exact (rs_seq (rs_if (ref_or (ref_not (ref_tB (ref_isTy (by decide +kernel) (by decide +kernel) (ref_var 0)))) (ref_or (ref_tst (ref_op (ref_cb (ref_cons (ref_var 0) ref_nil) rc_len) (ref_c fun _ _ => rfl) rr_ne)) (ref_not (ref_tB (ref_cb (ref_cons (ref_lc (ri_tup (ref_var 0)) (rn_name (by decide)) rt_yes (ref_call (es := []) (fun _ _ => rfl) (ref_cons (ref_var 2) ref_nil))) ref_nil) rc_all))))) (rs_ret (ref_c fun _ _ => rfl)) rs_next) (rs_ret (ref_andV (ref_op (ref_op (ref_var 0) (ref_c fun _ _ => rfl) rr_ix) (ref_c fun _ _ => rfl) rr_c) (ref_op (ref_tup (ref_cons (ref_op (ref_var 0) (ref_c fun _ _ => rfl) rr_ix) (ref_cons (ref_op (ref_var 0) (ref_c fun _ _ => rfl) rr_ix) ref_nil))) (ref_var 1) rr_in))))
theorem cal_is_some_of (T : Tp K mg base) : C8.Cal P w K mg base 3 "is_some_of" (pSp (gx K) 2 fs_is_some_of) [] := by
  obtain ⟨fd, F⟩ := T.c.def_ 16 (d := d_is_some_of) rfl
  exact ⟨_, fd, ps_is_some_of, [], fn_pure F sc_is_some_of (bd_is_some_of T) (fun ds DQ _ h => h), T.g_is_some_of, F.kp, F.bindsN (fun _ _ _ _ _ _ us hl => match us, hl with | [_, _], _ => rfl), .nil⟩
end
/-! ### load_in -/
abbrev N_load_in : List Str := ["country", "yard", "value", "pairs", "one", "near", "far"]
abbrev ps_load_in : List Str := ["country", "yard", "value"]
theorem sc_load_in : FnScope N_load_in ps_load_in (defScope s_load_in) := ⟨rfl, rfl, rfl, by decide +kernel, rfl, by decide +kernel, by decide +kernel⟩
def m_load_in : DTS := (dSeq (dSet 3 (dDat (dCall fs_pairs_at [] (dCons (dVar 0) (dCons (dVar 1) dNil))))) (dSeq (dIf (dOr (dNot (dTst (dCall fs_is_list [] (dCons (dVar 2) dNil)))) (dNot (dTst (dCB allD (dCons (dLc (dItL (dVar 2)) (gNm 4) dYes (dCall fs_is_some_of [] (dCons (dVar 4) (dCons (dVar 3) dNil))) [4]) dNil))))) (dRet (dC .non)) dNext) (dSeq (dIf (dTst (dCB anyD (dCons (dLc (dZip (dCons (dVar 2) (dCons (dSlL (dVar 2) (dPart (dC (.int 1))) dNoP) dNil))) (gTp (gCn (gNm 5) (gCn (gNm 6) gNl))) dYes (dOp geOp (dSlT (dVar 5) dNoP (dPart (dC (.int 2)))) (dSlT (dVar 6) dNoP (dPart (dC (.int 2))))) [5, 6]) dNil))) (dRet (dC .non)) dNext) (dRet (dCB listD (dCons (dVar 2) dNil))))))
def fs_load_in : DSp := fun ds Q => m_load_in (pureE Q) (startD 7 ds)
def t_load_in (K : PySem.W.Frag) (P : Program) (w : World) : TS := (tSeq (tAsg (tCall (pSp (gx K) 2 fs_pairs_at) [] E0 (tCons (tVar 0) (tCons (tVar 1) tNil))) (gName 3)) (tSeq (tIfS (tOr (tNot (tB (tCall (pSp (gx K) 1 fs_is_list) [] E0 (tCons (tVar 2) tNil)))) (tNot (tB (tCB (rAll K) (tCons (tLc (iList K (tVar 2)) (gName 4) tYes (tCall (pSp (gx K) 2 fs_is_some_of) [] E0 (tCons (tVar 4) (tCons (tVar 3) tNil))) [4]) tNil))))) (tRet (tC .non)) tNext) (tSeq (tIfS (tB (tCB (rAny K) (tCons (tLc (iZip K (tCons (tVar 2) (tCons (tSl (rSlL K) (tVar 2) (tPart (tC (.int 1))) tNoPart) tNil))) (gTup K 2 (gCons (gName 5) (gCons (gName 6) gNil))) tYes (tOp (rGeD K) (tSl (rSlT K) (tVar 5) tNoPart (tPart (tC (.int 2)))) (tSl (rSlT K) (tVar 6) tNoPart (tPart (tC (.int 2))))) [5, 6]) tNil))) (tRet (tC .non)) tNext) (tRet (tCB (rListOf K) (tCons (tVar 2) tNil))))))
section
variable {P : Program} {w : World} {K : PySem.W.Frag} {mg : Str → Option Value} {base : Heap}
theorem bd_load_in (T : Tp K mg base) {f : Addr} : Body P w K mg base (gx K) N_load_in "load_in" (defScope s_load_in) f 3 (defBody s_load_in) m_load_in := fun cdv A outer s H E hr => by
  have nd := sc_load_in.nd
  refine ⟨t_load_in K P w, ?_, ?_⟩
  · exact (pss_cons (ps_set (i := 3) nd rfl (Or.inr rfl) (C8.pe_c (cal_pairs_at T) hr (by decide) rfl (pa_cons (pv 0) (pa_cons (pv 1) pa_nil)))) (pss_cons (ps_if (PW.pt (pw_or (pt_not (pt_val (C8.pe_c (cal_is_list T) hr (by decide) rfl (pa_cons (pv 2) pa_nil)))) (pw_or1 (pt_not (pt_val (pe_callB (cr_all rfl) rfl T.f_all bt_all (pa_cons (pe_lc (own := [("one", 4)]) (g := (gName 4)) (tt := tYes) (te := (tCall (pSp (gx K) 2 fs_is_some_of) [] E0 (tCons (tVar 4) (tCons (tVar 3) tNil)))) rfl nd (pi_list (pv 2)) (blkOk_by (N := N_load_in) (sc := defScope s_load_in) (by decide +kernel)) (fun _ _ _ _ _ => (pg_name (i := 4) nd rfl (by first | exact Or.inl rfl | exact Or.inr rfl))) (fun _ _ _ _ _ => pts_nil) (fun _ _ _ _ _ => (C8.pe_c (cal_is_some_of T) hr (by decide) rfl (pa_cons (pv 4) (pa_cons (pv 3) pa_nil))))) pa_nil))))))) (pss_one (ps_ret pe_non)) pss_nil) (pss_cons (ps_if (pt_val (pe_callB (cr_any rfl) rfl T.f_any bt_any (pa_cons (pe_lc (own := [("near", 5), ("far", 6)]) (g := (gTup K 2 (gCons (gName 5) (gCons (gName 6) gNil)))) (tt := tYes) (te := (tOp (rGeD K) (tSl (rSlT K) (tVar 5) tNoPart (tPart (tC (.int 2)))) (tSl (rSlT K) (tVar 6) tNoPart (tPart (tC (.int 2)))))) rfl nd (pi_zip rfl T.f_zip (pa_cons (pv 2) (pa_cons (pe_slice sl_list (pv 2) (po_some pe_int) po_none) pa_nil))) (blkOk_by (N := N_load_in) (sc := defScope s_load_in) (by decide +kernel)) (fun _ _ _ _ _ => (pg_tup rfl (pgs_cons (pg_name (i := 5) nd rfl (by first | exact Or.inl rfl | exact Or.inr rfl)) (pgs_cons (pg_name (i := 6) nd rfl (by first | exact Or.inl rfl | exact Or.inr rfl)) pgs_nil)))) (fun _ _ _ _ _ => pts_nil) (fun _ _ _ _ _ => (pe_cmpR (op_geD (hu4 hr)) (pe_slice sl_tup (pv 5) po_none (po_some pe_int)) (pe_slice sl_tup (pv 6) po_none (po_some pe_int)) (nomark _)))) pa_nil))) (pss_one (ps_ret pe_non)) pss_nil) (pss_one (ps_ret (pe_callTy cl_list rfl T.f_list bt_list (pa_cons (pv 2) pa_nil)))))))
  · exact (rs_seq (rs_set (ref_dat (ref_call (es := []) (fun _ _ => rfl) (ref_cons (ref_var 0) (ref_cons (ref_var 1) ref_nil))))) (rs_seq (rs_if (ref_or (ref_not (ref_tB (ref_call (es := []) (fun _ _ => rfl) (ref_cons (ref_var 2) ref_nil)))) (ref_not (ref_tB (ref_cb (ref_cons (ref_lc (ri_list (ref_var 2)) (rn_name (by decide)) rt_yes (ref_call (es := []) (fun _ _ => rfl) (ref_cons (ref_var 4) (ref_cons (ref_var 3) ref_nil)))) ref_nil) rc_all)))) (rs_ret (ref_c fun _ _ => rfl)) rs_next) (rs_seq (rs_if (ref_tB (ref_cb (ref_cons (ref_lc (ri_zip (ref_cons (ref_var 2) (ref_cons (ref_slL (ref_var 2) (ref_part (ref_c fun _ _ => rfl)) ref_noP) ref_nil))) (rn_tup (rn_cons1 (by decide) (rn_cons1 (by decide) rn_nil))) rt_yes (ref_op (ref_slT (ref_var 5) ref_noP (ref_part (ref_c fun _ _ => rfl))) (ref_slT (ref_var 6) ref_noP (ref_part (ref_c fun _ _ => rfl))) rr_ge)) ref_nil) rc_any)) (rs_ret (ref_c fun _ _ => rfl)) rs_next) (rs_ret (ref_cb (ref_cons (ref_var 2) ref_nil) rc_list)))))
theorem cal_load_in (T : Tp K mg base) : C8.Cal P w K mg base 4 "load_in" (pSp (gx K) 3 fs_load_in) [] := by
  obtain ⟨fd, F⟩ := T.c.def_ 17 (d := d_load_in) rfl
  exact ⟨_, fd, ps_load_in, [], fn_pure F sc_load_in (bd_load_in T) (fun ds DQ _ h => h), T.g_load_in, F.kp, F.bindsN (fun _ _ _ _ _ _ us hl => match us, hl with | [_, _, _], _ => rfl), .nil⟩
end
/-! ### want_load -/
abbrev N_want_load : List Str := ["country", "yard", "value", "found"]
abbrev ps_want_load : List Str := ["country", "yard", "value"]
theorem sc_want_load : FnScope N_want_load ps_want_load (defScope s_want_load) := ⟨rfl, rfl, rfl, by decide +kernel, rfl, by decide +kernel, by decide +kernel⟩
def m_want_load : DTS := (dSeq (dSet 3 (dDat (dCall fs_load_in [] (dCons (dVar 0) (dCons (dVar 1) (dCons (dVar 2) dNil)))))) (dSeq (dIf (dTst (dIsN (dVar 3))) dNever dNext) (dRet (dVar 3))))
def fs_want_load : DSp := fun ds Q => m_want_load (pureE Q) (startD 4 ds)
def t_want_load (K : PySem.W.Frag) (P : Program) (w : World) : TS := (tSeq (tAsg (tCall (pSp (gx K) 3 fs_load_in) [] E0 (tCons (tVar 0) (tCons (tVar 1) (tCons (tVar 2) tNil)))) (gName 3)) (tSeq (tIfS (tB (tIsN (tVar 3))) tNever tNext) (tRet (tVar 3))))
section
variable {P : Program} {w : World} {K : PySem.W.Frag} {mg : Str → Option Value} {base : Heap}
theorem bd_want_load (T : Tp K mg base) {f : Addr} : Body P w K mg base (gx K) N_want_load "want_load" (defScope s_want_load) f 4 (defBody s_want_load) m_want_load := fun cdv A outer s H E hr => by
  have nd := sc_want_load.nd
  refine ⟨t_want_load K P w, ?_, ?_⟩
  · exact (pss_cons (ps_set (i := 3) nd rfl (Or.inl rfl) (C8.pe_c (cal_load_in T) hr (by decide) rfl (pa_cons (pv 0) (pa_cons (pv 1) (pa_cons (pv 2) pa_nil))))) (pss_cons (ps_if (pt_cmp (pc_isN (pv 3))) (pss_one ps_never) pss_nil) (pss_one (ps_ret (pv 3)))))
  · exact (rs_seq (rs_set (ref_dat (ref_call (es := []) (fun _ _ => rfl) (ref_cons (ref_var 0) (ref_cons (ref_var 1) (ref_cons (ref_var 2) ref_nil)))))) (rs_seq (rs_if (ref_tB (ref_isN (ref_var 3))) rs_never rs_next) (rs_ret (ref_var 3))))
theorem cal_want_load (T : Tp K mg base) : C8.Cal P w K mg base 5 "want_load" (pSp (gx K) 3 fs_want_load) [] := by
  obtain ⟨fd, F⟩ := T.c.def_ 18 (d := d_want_load) rfl
  exact ⟨_, fd, ps_want_load, [], fn_pure F sc_want_load (bd_want_load T) (fun ds DQ _ h => h), T.g_want_load, F.kp, F.bindsN (fun _ _ _ _ _ _ us hl => match us, hl with | [_, _, _], _ => rfl), .nil⟩
end
end K26
set_option Elab.async false
set_option linter.all false
set_option maxRecDepth 100000
set_option maxHeartbeats 1000000
namespace K26
open PySem PySem.Spec PyProof.Rows L2

/-! ### plus_cart -/
abbrev N_plus_cart : List Str := ["load", "origin", "target", "found", "many", "one"]
abbrev ps_plus_cart : List Str := ["load", "origin", "target"]
theorem sc_plus_cart : FnScope N_plus_cart ps_plus_cart (defScope s_plus_cart) := ⟨rfl, rfl, rfl, by decide +kernel, rfl, by decide +kernel, by decide +kernel⟩
def m_plus_cart : DTS := (dSeq (dPar 3 4 (dOwnL dNil) (dDat (dC (.int 1)))) (dSeq (dFor (dItL (dVar 0)) (gNm 5) (dIf (dTst (dOp eqOp (dSlT (dVar 5) dNoP (dPart (dC (.int 2)))) (dTup (dCons (dVar 1) (dCons (dVar 2) dNil))))) (dSet 4 (dDat (dOp iAdd (dVar 4) (dOp ixOp (dVar 5) (dC (.int 2)))))) (dAppend 3 (dVar 5)))) (dRet (dCB sortedDN (dCons (dOp catOp (dVar 3) (dLst (dCons (dTup (dCons (dVar 1) (dCons (dVar 2) (dCons (dVar 4) dNil)))) dNil))) dNil)))))
def fs_plus_cart : DSp := fun ds Q => m_plus_cart (pureE Q) (startD 6 ds)
def t_plus_cart (K : PySem.W.Frag) (P : Program) (w : World) : TS := (tSeq (tPar 3 4 (tCons (tLst tNil) (tCons (tC (.int 1)) tNil))) (tSeq (tFor (iList K (tVar 0)) (gName 5) (tIfS (tTest (tOp (rEqD K) (tSl (rSlT K) (tVar 5) tNoPart (tPart (tC (.int 2)))) (tTup (tCons (tVar 1) (tCons (tVar 2) tNil))))) (tAsg (tOp rAdd (tVar 4) (tOp (rIx K) (tVar 5) (tC (.int 2)))) (gName 4)) (tDrop (tBM K "list" rAppend (tVar 3) (tCons (tVar 5) tNil))))) (tRet (tCB (rSortedD K) (tCons (tOp rCat (tVar 3) (tLst (tCons (tTup (tCons (tVar 1) (tCons (tVar 2) (tCons (tVar 4) tNil)))) tNil))) tNil)))))
section
variable {P : Program} {w : World} {K : PySem.W.Frag} {mg : Str → Option Value} {base : Heap}
theorem bd_plus_cart (T : Tp K mg base) {f : Addr} : Body P w K mg base (gx K) N_plus_cart "plus_cart" (defScope s_plus_cart) f 0 (defBody s_plus_cart) m_plus_cart := fun cdv A outer s H E hr => by
  have nd := sc_plus_cart.nd
  refine ⟨t_plus_cart K P w, ?_, ?_⟩
  · exact (pss_cons (ps_par (i := 3) (j := 4) rfl nd rfl rfl (by decide) rfl rfl (pa_cons (pe_lst pa_nil) (pa_cons pe_int pa_nil)) rfl) (pss_cons (ps_for PassesOwn.never rfl (pi_list (pv 0)) (pg_name (i := 5) nd rfl (by first | exact Or.inl rfl | exact Or.inr rfl)) (pss_one (ps_if (pt_cmpR (op_eqD (hu4 hr)) (pe_slice sl_tup (pv 5) po_none (po_some pe_int)) (pe_tup (pa_cons (pv 1) (pa_cons (pv 2) pa_nil))) (nomark _)) (pss_one (ps_set (i := 4) nd rfl (Or.inl rfl) (pe_op op_add (pv 4) (pe_ix ix_seq (pv 5) pe_int (fun _ _ => rfl))))) (pss_one (ps_expr (pe_bm PySem.F.plainAttrs_list PySem.F.slot_list_append PySem.F.type_list_append mt_append (pv 3) (pa_cons (pv 5) pa_nil))))))) (pss_one (ps_ret (pe_callB (cr_sortedD (hu4 hr)) rfl T.f_sorted bt_sorted (pa_cons (pe_op op_cat (pv 3) (pe_lst (pa_cons (pe_tup (pa_cons (pv 1) (pa_cons (pv 2) (pa_cons (pv 4) pa_nil)))) pa_nil))) pa_nil))))))
  · exact (rs_seq (rs_par (by decide) (ref_ownL ref_nil) (ref_dat (ref_c fun _ _ => rfl))) (rs_seq (rs_for (vs := [5]) (ri_list (ref_var 0)) (rn_name (by decide)) (rs_if (ref_tst (ref_op (ref_slT (ref_var 5) ref_noP (ref_part (ref_c fun _ _ => rfl))) (ref_tup (ref_cons (ref_var 1) (ref_cons (ref_var 2) ref_nil))) rr_eq)) (rs_set (ref_dat (ref_op (ref_var 4) (ref_op (ref_var 5) (ref_c fun _ _ => rfl) rr_ix) rr_i0))) (rs_append (ref_var 5)))) (rs_ret (ref_cb (ref_cons (ref_op (ref_var 3) (ref_lst (ref_cons (ref_tup (ref_cons (ref_var 1) (ref_cons (ref_var 2) (ref_cons (ref_var 4) ref_nil)))) ref_nil)) rr_cat) ref_nil) rc_sortedN))))
theorem cal_plus_cart (T : Tp K mg base) : C8.Cal P w K mg base 1 "plus_cart" (pSp (gx K) 3 fs_plus_cart) [] := by
  obtain ⟨fd, F⟩ := T.c.def_ 19 (d := d_plus_cart) rfl
  exact ⟨_, fd, ps_plus_cart, [], fn_pure F sc_plus_cart (bd_plus_cart T) (fun ds DQ _ h => h), T.g_plus_cart, F.kp, F.bindsN (fun _ _ _ _ _ _ us hl => match us, hl with | [_, _, _], _ => rfl), .nil⟩
end
/-! ### is_end_for -/
abbrev N_is_end_for : List Str := ["near", "value"]
abbrev ps_is_end_for : List Str := ["near", "value"]
theorem sc_is_end_for : FnScope N_is_end_for ps_is_end_for (defScope s_is_end_for) := ⟨rfl, rfl, rfl, by decide +kernel, rfl, by decide +kernel, by decide +kernel⟩
def m_is_end_for : DTS := (dRet (dOrV (dIsN (dVar 1)) (dAndV (dCall fs_is_count [] (dCons (dVar 1) dNil)) (dOp inOp (dVar 1) (dVar 0)))))
def fs_is_end_for : DSp := fun ds Q => m_is_end_for (pureE Q) (startD 2 ds)
def t_is_end_for (K : PySem.W.Frag) (P : Program) (w : World) : TS := (tRet (tOrV (tIsN (tVar 1)) (tAndV (tCall (pSp (gx K) 1 fs_is_count) [] E0 (tCons (tVar 1) tNil)) (tOp (rInD K) (tVar 1) (tVar 0)))))
section
variable {P : Program} {w : World} {K : PySem.W.Frag} {mg : Str → Option Value} {base : Heap}
theorem bd_is_end_for (T : Tp K mg base) {f : Addr} : Body P w K mg base (gx K) N_is_end_for "is_end_for" (defScope s_is_end_for) f 2 (defBody s_is_end_for) m_is_end_for := fun cdv A outer s H E hr => by
  have nd := sc_is_end_for.nd
  refine ⟨t_is_end_for K P w, ?_, ?_⟩
  · exact (pss_one (ps_ret (pe_or (pe_cmp (pc_isN (pv 1))) (pe_one (pe_and (C8.pe_c (cal_is_count T) hr (by decide) rfl (pa_cons (pv 1) pa_nil)) (pe_one (pe_cmpR (op_inD (hu5 hr)) (pv 1) (pv 0) (by with_unfolding_all rfl))))))))
  · exact (rs_ret (ref_orV (ref_isN (ref_var 1)) (ref_andV (ref_call (es := []) (fun _ _ => rfl) (ref_cons (ref_var 1) ref_nil)) (ref_op (ref_var 1) (ref_var 0) rr_in))))
theorem cal_is_end_for (T : Tp K mg base) : C8.Cal P w K mg base 3 "is_end_for" (pSp (gx K) 2 fs_is_end_for) [] := by
  obtain ⟨fd, F⟩ := T.c.def_ 20 (d := d_is_end_for) rfl
  exact ⟨_, fd, ps_is_end_for, [], fn_pure F sc_is_end_for (bd_is_end_for T) (fun ds DQ _ h => h), T.g_is_end_for, F.kp, F.bindsN (fun _ _ _ _ _ _ us hl => match us, hl with | [_, _], _ => rfl), .nil⟩
end
/-! ### is_bound_for -/
abbrev N_is_bound_for : List Str := ["near", "value"]
abbrev ps_is_bound_for : List Str := ["near", "value"]
theorem sc_is_bound_for : FnScope N_is_bound_for ps_is_bound_for (defScope s_is_bound_for) := ⟨rfl, rfl, rfl, by decide +kernel, rfl, by decide +kernel, by decide +kernel⟩
def m_is_bound_for : DTS := (dSeq (dIf (dOr (dNot (dTst (dIsTy "tuple" (dVar 1)))) (dOr (dTst (dOp neOp (dCB lenD (dCons (dVar 1) dNil)) (dC (.int 3)))) (dOr (dNot (dTst (dCall fs_is_count [] (dCons (dOp ixOp (dVar 1) (dC (.int 2))) dNil)))) (dTst (dOp cGt (dOp ixOp (dVar 1) (dC (.int 2))) (dC (.int 6))))))) (dRet (dC (.bl false))) dNext) (dRet (dAndV (dCall fs_is_end_for [] (dCons (dVar 0) (dCons (dOp ixOp (dVar 1) (dC (.int 0))) dNil))) (dAndV (dCall fs_is_end_for [] (dCons (dVar 0) (dCons (dOp ixOp (dVar 1) (dC (.int 1))) dNil))) (dOp neOp (dOp ixOp (dVar 1) (dC (.int 0))) (dOp ixOp (dVar 1) (dC (.int 1))))))))
def fs_is_bound_for : DSp := fun ds Q => m_is_bound_for (pureE Q) (startD 2 ds)
def t_is_bound_for (K : PySem.W.Frag) (P : Program) (w : World) : TS := (tSeq (tIfS (tOr (tNot (tB (tCB (rIsi K) (tCons (tVar 1) (tCons (tC (.ty "tuple")) tNil))))) (tOr (tTest (tOp (rNeD K) (tCB (rLen2 K) (tCons (tVar 1) tNil)) (tC (.int 3)))) (tOr (tNot (tB (tCall (pSp (gx K) 1 fs_is_count) [] E0 (tCons (tOp (rIx K) (tVar 1) (tC (.int 2))) tNil)))) (tTest (tOp rGt (tOp (rIx K) (tVar 1) (tC (.int 2))) (tC (.int 6))))))) (tRet (tC (.bl false))) tNext) (tRet (tAndV (tCall (pSp (gx K) 2 fs_is_end_for) [] E0 (tCons (tVar 0) (tCons (tOp (rIx K) (tVar 1) (tC (.int 0))) tNil))) (tAndV (tCall (pSp (gx K) 2 fs_is_end_for) [] E0 (tCons (tVar 0) (tCons (tOp (rIx K) (tVar 1) (tC (.int 1))) tNil))) (tOp (rNeD K) (tOp (rIx K) (tVar 1) (tC (.int 0))) (tOp (rIx K) (tVar 1) (tC (.int 1))))))))
section
variable {P : Program} {w : World} {K : PySem.W.Frag} {mg : Str → Option Value} {base : Heap}
theorem bd_is_bound_for (T : Tp K mg base) {f : Addr} : Body P w K mg base (gx K) N_is_bound_for "is_bound_for" (defScope s_is_bound_for) f 3 (defBody s_is_bound_for) m_is_bound_for := fun cdv A outer s H E hr => by
  obtain ⟨_, hMOST_PLACES, rMOST_PLACES⟩ := T.i_MOST_PLACES
  have nd := sc_is_bound_for.nd
  refine ⟨t_is_bound_for K P w, ?_, ?_⟩
  · exact (pss_cons (ps_if (PW.pt (pw_or (pt_not (pt_val (pe_callB cl_isi rfl T.f_isinstance bt_isinstance (pa_cons (pv 1) (pa_cons (pe_bltn rfl T.f_tuple bt_tuple rfl) pa_nil))))) (pw_or (pt_cmpR (op_neD (hu4 hr)) (pe_callB cl_len rfl T.f_len bt_len (pa_cons (pv 1) pa_nil)) pe_int (nomark _)) (pw_or (pt_not (pt_val (C8.pe_c (cal_is_count T) hr (by decide) rfl (pa_cons (pe_ix ix_seq (pv 1) pe_int (fun _ _ => rfl)) pa_nil)))) (pw_or1 (pt_cmpR op_gt (pe_ix ix_seq (pv 1) pe_int (fun _ _ => rfl)) (pe_glob rfl hMOST_PLACES rMOST_PLACES) (nomark _))))))) (pss_one (ps_ret pe_bl)) pss_nil) (pss_one (ps_ret (pe_and (C8.pe_c (cal_is_end_for T) hr (by decide) rfl (pa_cons (pv 0) (pa_cons (pe_ix ix_seq (pv 1) pe_int (fun _ _ => rfl)) pa_nil))) (pe_and (C8.pe_c (cal_is_end_for T) hr (by decide) rfl (pa_cons (pv 0) (pa_cons (pe_ix ix_seq (pv 1) pe_int (fun _ _ => rfl)) pa_nil))) (pe_one (pe_cmpR (op_neD (hu4 hr)) (pe_ix ix_seq (pv 1) pe_int (fun _ _ => rfl)) (pe_ix ix_seq (pv 1) pe_int (fun _ _ => rfl)) (nomark _))))))))
  · exact (rs_seq (rs_if (ref_or (ref_not (ref_tB (ref_isTy (by decide +kernel) (by decide +kernel) (ref_var 1)))) (ref_or (ref_tst (ref_op (ref_cb (ref_cons (ref_var 1) ref_nil) rc_len) (ref_c fun _ _ => rfl) rr_ne)) (ref_or (ref_not (ref_tB (ref_call (es := []) (fun _ _ => rfl) (ref_cons (ref_op (ref_var 1) (ref_c fun _ _ => rfl) rr_ix) ref_nil)))) (ref_tst (ref_op (ref_op (ref_var 1) (ref_c fun _ _ => rfl) rr_ix) (ref_c fun _ _ => rfl) rr_c))))) (rs_ret (ref_c fun _ _ => rfl)) rs_next) (rs_ret (ref_andV (ref_call (es := []) (fun _ _ => rfl) (ref_cons (ref_var 0) (ref_cons (ref_op (ref_var 1) (ref_c fun _ _ => rfl) rr_ix) ref_nil))) (ref_andV (ref_call (es := []) (fun _ _ => rfl) (ref_cons (ref_var 0) (ref_cons (ref_op (ref_var 1) (ref_c fun _ _ => rfl) rr_ix) ref_nil))) (ref_op (ref_op (ref_var 1) (ref_c fun _ _ => rfl) rr_ix) (ref_op (ref_var 1) (ref_c fun _ _ => rfl) rr_ix) rr_ne)))))
theorem cal_is_bound_for (T : Tp K mg base) : C8.Cal P w K mg base 4 "is_bound_for" (pSp (gx K) 2 fs_is_bound_for) [] := by
  obtain ⟨fd, F⟩ := T.c.def_ 21 (d := d_is_bound_for) rfl
  exact ⟨_, fd, ps_is_bound_for, [], fn_pure F sc_is_bound_for (bd_is_bound_for T) (fun ds DQ _ h => h), T.g_is_bound_for, F.kp, F.bindsN (fun _ _ _ _ _ _ us hl => match us, hl with | [_, _], _ => rfl), .nil⟩
end
/-! ### alternative_in -/
abbrev N_alternative_in : List Str := ["near", "value", "bounds", "one"]
abbrev ps_alternative_in : List Str := ["near", "value"]
theorem sc_alternative_in : FnScope N_alternative_in ps_alternative_in (defScope s_alternative_in) := ⟨rfl, rfl, rfl, by decide +kernel, rfl, by decide +kernel, by decide +kernel⟩
def m_alternative_in : DTS := (dSeq (dIf (dOr (dNot (dTst (dIsTy "tuple" (dVar 1)))) (dOr (dTst (dOp neOp (dCB lenD (dCons (dVar 1) dNil)) (dC (.int 2)))) (dOr (dNot (dTst (dCall fs_is_count [] (dCons (dOp ixOp (dVar 1) (dC (.int 0))) dNil)))) (dNot (dTst (dChain cLe cLe (dC (.int 1)) (dOp ixOp (dVar 1) (dC (.int 0))) (dC (.int 6)))))))) (dRet (dC .non)) dNext) (dSeq (dSet 2 (dDat (dOp ixOp (dVar 1) (dC (.int 1))))) (dSeq (dIf (dOr (dNot (dTst (dCall fs_is_list [] (dCons (dVar 2) dNil)))) (dOr (dTst (dOp cGt (dCB lenD (dCons (dVar 2) dNil)) (dC (.int 6)))) (dNot (dTst (dCB allD (dCons (dLc (dItL (dVar 2)) (gNm 3) dYes (dCall fs_is_bound_for [] (dCons (dVar 0) (dCons (dVar 3) dNil))) [3]) dNil)))))) (dRet (dC .non)) dNext) (dRet (dTup (dCons (dOp ixOp (dVar 1) (dC (.int 0))) (dCons (dCB listD (dCons (dVar 2) dNil)) dNil)))))))
def fs_alternative_in : DSp := fun ds Q => m_alternative_in (pureE Q) (startD 4 ds)
def t_alternative_in (K : PySem.W.Frag) (P : Program) (w : World) : TS := (tSeq (tIfS (tOr (tNot (tB (tCB (rIsi K) (tCons (tVar 1) (tCons (tC (.ty "tuple")) tNil))))) (tOr (tTest (tOp (rNeD K) (tCB (rLen2 K) (tCons (tVar 1) tNil)) (tC (.int 2)))) (tOr (tNot (tB (tCall (pSp (gx K) 1 fs_is_count) [] E0 (tCons (tOp (rIx K) (tVar 1) (tC (.int 0))) tNil)))) (tNot (tTest (tChain rLe rLe (tC (.int 1)) (tOp (rIx K) (tVar 1) (tC (.int 0))) (tC (.int 6)))))))) (tRet (tC .non)) tNext) (tSeq (tAsg (tOp (rIx K) (tVar 1) (tC (.int 1))) (gName 2)) (tSeq (tIfS (tOr (tNot (tB (tCall (pSp (gx K) 1 fs_is_list) [] E0 (tCons (tVar 2) tNil)))) (tOr (tTest (tOp rGt (tCB (rLen2 K) (tCons (tVar 2) tNil)) (tC (.int 6)))) (tNot (tB (tCB (rAll K) (tCons (tLc (iList K (tVar 2)) (gName 3) tYes (tCall (pSp (gx K) 2 fs_is_bound_for) [] E0 (tCons (tVar 0) (tCons (tVar 3) tNil))) [3]) tNil)))))) (tRet (tC .non)) tNext) (tRet (tTup (tCons (tOp (rIx K) (tVar 1) (tC (.int 0))) (tCons (tCB (rListOf K) (tCons (tVar 2) tNil)) tNil)))))))
section
variable {P : Program} {w : World} {K : PySem.W.Frag} {mg : Str → Option Value} {base : Heap}
theorem bd_alternative_in (T : Tp K mg base) {f : Addr} : Body P w K mg base (gx K) N_alternative_in "alternative_in" (defScope s_alternative_in) f 4 (defBody s_alternative_in) m_alternative_in := fun cdv A outer s H E hr => by
  obtain ⟨_, hMOST_BOUNDS, rMOST_BOUNDS⟩ := T.i_MOST_BOUNDS
  obtain ⟨_, hMOST_PLACES, rMOST_PLACES⟩ := T.i_MOST_PLACES
  have nd := sc_alternative_in.nd
  refine ⟨t_alternative_in K P w, ?_, ?_⟩
  · exact (pss_cons (ps_if (PW.pt (pw_or (pt_not (pt_val (pe_callB cl_isi rfl T.f_isinstance bt_isinstance (pa_cons (pv 1) (pa_cons (pe_bltn rfl T.f_tuple bt_tuple rfl) pa_nil))))) (pw_or (pt_cmpR (op_neD (hu4 hr)) (pe_callB cl_len rfl T.f_len bt_len (pa_cons (pv 1) pa_nil)) pe_int (nomark _)) (pw_or (pt_not (pt_val (C8.pe_c (cal_is_count T) hr (by decide) rfl (pa_cons (pe_ix ix_seq (pv 1) pe_int (fun _ _ => rfl)) pa_nil)))) (pw_or1 (pt_not (pt_chain op_le op_le pe_int (pe_ix ix_seq (pv 1) pe_int (fun _ _ => rfl)) (pe_glob rfl hMOST_PLACES rMOST_PLACES)))))))) (pss_one (ps_ret pe_non)) pss_nil) (pss_cons (ps_set (i := 2) nd rfl (Or.inl rfl) (pe_ix ix_seq (pv 1) pe_int (fun _ _ => rfl))) (pss_cons (ps_if (PW.pt (pw_or (pt_not (pt_val (C8.pe_c (cal_is_list T) hr (by decide) rfl (pa_cons (pv 2) pa_nil)))) (pw_or (pt_cmpR op_gt (pe_callB cl_len rfl T.f_len bt_len (pa_cons (pv 2) pa_nil)) (pe_glob rfl hMOST_BOUNDS rMOST_BOUNDS) (nomark _)) (pw_or1 (pt_not (pt_val (pe_callB (cr_all rfl) rfl T.f_all bt_all (pa_cons (pe_lc (own := [("one", 3)]) (g := (gName 3)) (tt := tYes) (te := (tCall (pSp (gx K) 2 fs_is_bound_for) [] E0 (tCons (tVar 0) (tCons (tVar 3) tNil)))) rfl nd (pi_list (pv 2)) (blkOk_by (N := N_alternative_in) (sc := defScope s_alternative_in) (by decide +kernel)) (fun _ _ _ _ _ => (pg_name (i := 3) nd rfl (by first | exact Or.inl rfl | exact Or.inr rfl))) (fun _ _ _ _ _ => pts_nil) (fun _ _ _ _ _ => (C8.pe_c (cal_is_bound_for T) hr (by decide) rfl (pa_cons (pv 0) (pa_cons (pv 3) pa_nil))))) pa_nil)))))))) (pss_one (ps_ret pe_non)) pss_nil) (pss_one (ps_ret (pe_tup (pa_cons (pe_ix ix_seq (pv 1) pe_int (fun _ _ => rfl)) (pa_cons (pe_callTy cl_list rfl T.f_list bt_list (pa_cons (pv 2) pa_nil)) pa_nil))))))))
  · exact (rs_seq (rs_if (ref_or (ref_not (ref_tB (ref_isTy (by decide +kernel) (by decide +kernel) (ref_var 1)))) (ref_or (ref_tst (ref_op (ref_cb (ref_cons (ref_var 1) ref_nil) rc_len) (ref_c fun _ _ => rfl) rr_ne)) (ref_or (ref_not (ref_tB (ref_call (es := []) (fun _ _ => rfl) (ref_cons (ref_op (ref_var 1) (ref_c fun _ _ => rfl) rr_ix) ref_nil)))) (ref_not (ref_tst (ref_chain (ref_c fun _ _ => rfl) (ref_op (ref_var 1) (ref_c fun _ _ => rfl) rr_ix) (ref_c fun _ _ => rfl) rr_c rr_c)))))) (rs_ret (ref_c fun _ _ => rfl)) rs_next) (rs_seq (rs_set (ref_dat (ref_op (ref_var 1) (ref_c fun _ _ => rfl) rr_ix))) (rs_seq (rs_if (ref_or (ref_not (ref_tB (ref_call (es := []) (fun _ _ => rfl) (ref_cons (ref_var 2) ref_nil)))) (ref_or (ref_tst (ref_op (ref_cb (ref_cons (ref_var 2) ref_nil) rc_len) (ref_c fun _ _ => rfl) rr_c)) (ref_not (ref_tB (ref_cb (ref_cons (ref_lc (ri_list (ref_var 2)) (rn_name (by decide)) rt_yes (ref_call (es := []) (fun _ _ => rfl) (ref_cons (ref_var 0) (ref_cons (ref_var 3) ref_nil)))) ref_nil) rc_all))))) (rs_ret (ref_c fun _ _ => rfl)) rs_next) (rs_ret (ref_tup (ref_cons (ref_op (ref_var 1) (ref_c fun _ _ => rfl) rr_ix) (ref_cons (ref_cb (ref_cons (ref_var 2) ref_nil) rc_list) ref_nil)))))))
theorem cal_alternative_in (T : Tp K mg base) : C8.Cal P w K mg base 5 "alternative_in" (pSp (gx K) 2 fs_alternative_in) [] := by
  obtain ⟨fd, F⟩ := T.c.def_ 22 (d := d_alternative_in) rfl
  exact ⟨_, fd, ps_alternative_in, [], fn_pure F sc_alternative_in (bd_alternative_in T) (fun ds DQ _ h => h), T.g_alternative_in, F.kp, F.bindsN (fun _ _ _ _ _ _ us hl => match us, hl with | [_, _], _ => rfl), .nil⟩
end
/-! ### keeps -/
abbrev N_keeps : List Str := ["bound", "load", "origin", "target", "most", "many", "start", "end", "some"]
abbrev ps_keeps : List Str := ["bound", "load"]
theorem sc_keeps : FnScope N_keeps ps_keeps (defScope s_keeps) := ⟨rfl, rfl, rfl, by decide +kernel, rfl, by decide +kernel, by decide +kernel⟩
def m_keeps : DTS := (dSeq (dAsg (dVar 0) (gTp (gCn (gNm 2) (gCn (gNm 3) (gCn (gNm 4) gNl))))) (dSeq (dSet 5 (dDat (dC (.int 0)))) (dSeq (dFor (dItL (dVar 1)) (gTp (gCn (gNm 6) (gCn (gNm 7) (gCn (gNm 8) gNl)))) (dIf (dAnd (dTst (dOp inNS (dVar 2) (dTup (dCons (dC .non) (dCons (dVar 6) dNil))))) (dTst (dOp inNS (dVar 3) (dTup (dCons (dC .non) (dCons (dVar 7) dNil)))))) (dSet 5 (dDat (dOp iAdd (dVar 5) (dVar 8)))) dNext)) (dRet (dOp cLe (dVar 5) (dVar 4))))))
def fs_keeps : DSp := fun ds Q => m_keeps (pureE Q) (startD 9 ds)
def t_keeps (K : PySem.W.Frag) (P : Program) (w : World) : TS := (tSeq (tAsg (tVar 0) (gTup K 3 (gCons (gName 2) (gCons (gName 3) (gCons (gName 4) gNil))))) (tSeq (tAsg (tC (.int 0)) (gName 5)) (tSeq (tFor (iList K (tVar 1)) (gTup K 3 (gCons (gName 6) (gCons (gName 7) (gCons (gName 8) gNil)))) (tIfS (tAnd (tTest (tOp (rIn K false) (tVar 2) (tTup (tCons (tC .non) (tCons (tVar 6) tNil))))) (tTest (tOp (rIn K false) (tVar 3) (tTup (tCons (tC .non) (tCons (tVar 7) tNil)))))) (tAsg (tOp rAdd (tVar 5) (tVar 8)) (gName 5)) tNext)) (tRet (tOp rLe (tVar 5) (tVar 4))))))
section
variable {P : Program} {w : World} {K : PySem.W.Frag} {mg : Str → Option Value} {base : Heap}
theorem bd_keeps (T : Tp K mg base) {f : Addr} : Body P w K mg base (gx K) N_keeps "keeps" (defScope s_keeps) f 0 (defBody s_keeps) m_keeps := fun cdv A outer s H E hr => by
  have nd := sc_keeps.nd
  refine ⟨t_keeps K P w, ?_, ?_⟩
  · exact (pss_cons (ps_asg (pv 0) (pg_tup rfl (pgs_cons (pg_name (i := 2) nd rfl (Or.inl rfl)) (pgs_cons (pg_name (i := 3) nd rfl (Or.inl rfl)) (pgs_cons (pg_name (i := 4) nd rfl (Or.inl rfl)) pgs_nil))))) (pss_cons (ps_set (i := 5) nd rfl (Or.inl rfl) pe_int) (pss_cons (ps_for PassesOwn.never rfl (pi_list (pv 1)) (pg_tup rfl (pgs_cons (pg_name (i := 6) nd rfl (by first | exact Or.inl rfl | exact Or.inr rfl)) (pgs_cons (pg_name (i := 7) nd rfl (by first | exact Or.inl rfl | exact Or.inr rfl)) (pgs_cons (pg_name (i := 8) nd rfl (by first | exact Or.inl rfl | exact Or.inr rfl)) pgs_nil)))) (pss_one (ps_if (PW.pt (pw_and (pt_cmpR op_in_seq (pv 2) (pe_tup (pa_cons pe_non (pa_cons (pv 6) pa_nil))) (by with_unfolding_all rfl)) (pw_and1 (pt_cmpR op_in_seq (pv 3) (pe_tup (pa_cons pe_non (pa_cons (pv 7) pa_nil))) (by with_unfolding_all rfl))))) (pss_one (ps_set (i := 5) nd rfl (Or.inl rfl) (pe_op op_add (pv 5) (pv 8)))) pss_nil))) (pss_one (ps_ret (pe_cmpR op_le (pv 5) (pv 4) (nomark _)))))))
  · exact (rs_seq (rs_asg (ref_var 0) (rg_tup (rg_cons (rg_n (rn_name (vs := [2]) (by decide))) (rg_cons (rg_n (rn_name (vs := [3]) (by decide))) (rg_cons (rg_n (rn_name (vs := [4]) (by decide))) rg_nil gNm_ex) gNm_ex) gNm_ex))) (rs_seq (rs_set (ref_dat (ref_c fun _ _ => rfl))) (rs_seq (rs_for (vs := [6, 7, 8]) (ri_list (ref_var 1)) (rn_tup (rn_cons1 (by decide) (rn_cons1 (by decide) (rn_cons1 (by decide) rn_nil)))) (rs_if (ref_and (ref_tst (ref_op (ref_var 2) (ref_tup (ref_cons (ref_c fun _ _ => rfl) (ref_cons (ref_var 6) ref_nil))) rr_inNS)) (ref_tst (ref_op (ref_var 3) (ref_tup (ref_cons (ref_c fun _ _ => rfl) (ref_cons (ref_var 7) ref_nil))) rr_inNS))) (rs_set (ref_dat (ref_op (ref_var 5) (ref_var 8) rr_i0))) rs_next)) (rs_ret (ref_op (ref_var 5) (ref_var 4) rr_c)))))
theorem cal_keeps (T : Tp K mg base) : C8.Cal P w K mg base 1 "keeps" (pSp (gx K) 2 fs_keeps) [] := by
  obtain ⟨fd, F⟩ := T.c.def_ 23 (d := d_keeps) rfl
  exact ⟨_, fd, ps_keeps, [], fn_pure F sc_keeps (bd_keeps T) (fun ds DQ _ h => h), T.g_keeps, F.kp, F.bindsN (fun _ _ _ _ _ _ us hl => match us, hl with | [_, _], _ => rfl), .nil⟩
end
/-! ### stands_by_one -/
abbrev N_stands_by_one : List Str := ["alternative", "load", "places", "bounds", "start", "end", "some", "bound"]
abbrev ps_stands_by_one : List Str := ["alternative", "load"]
theorem sc_stands_by_one : FnScope N_stands_by_one ps_stands_by_one (defScope s_stands_by_one) := ⟨rfl, rfl, rfl, by decide +kernel, rfl, by decide +kernel, by decide +kernel⟩
def m_stands_by_one : DTS := (dSeq (dAsg (dVar 0) (gTp (gCn (gNm 2) (gCn (gNm 3) gNl)))) (dSeq (dIf (dTst (dOp cGt (dCB sumD (dCons (dLc (dItL (dVar 1)) (gTp (gCn (gNm 4) (gCn (gNm 5) (gCn (gNm 6) gNl)))) dYes (dVar 6) [4, 5, 6]) dNil)) (dVar 2))) (dRet (dC (.bl false))) dNext) (dRet (dCB allD (dCons (dLc (dItL (dVar 3)) (gNm 7) dYes (dCall fs_keeps [] (dCons (dVar 7) (dCons (dVar 1) dNil))) [7]) dNil)))))
def fs_stands_by_one : DSp := fun ds Q => m_stands_by_one (pureE Q) (startD 8 ds)
def t_stands_by_one (K : PySem.W.Frag) (P : Program) (w : World) : TS := (tSeq (tAsg (tVar 0) (gTup K 2 (gCons (gName 2) (gCons (gName 3) gNil)))) (tSeq (tIfS (tTest (tOp rGt (tCB (rSum K) (tCons (tLc (iList K (tVar 1)) (gTup K 3 (gCons (gName 4) (gCons (gName 5) (gCons (gName 6) gNil)))) tYes (tVar 6) [4, 5, 6]) tNil)) (tVar 2))) (tRet (tC (.bl false))) tNext) (tRet (tCB (rAll K) (tCons (tLc (iList K (tVar 3)) (gName 7) tYes (tCall (pSp (gx K) 2 fs_keeps) [] E0 (tCons (tVar 7) (tCons (tVar 1) tNil))) [7]) tNil)))))
section
variable {P : Program} {w : World} {K : PySem.W.Frag} {mg : Str → Option Value} {base : Heap}
theorem bd_stands_by_one (T : Tp K mg base) {f : Addr} : Body P w K mg base (gx K) N_stands_by_one "stands_by_one" (defScope s_stands_by_one) f 1 (defBody s_stands_by_one) m_stands_by_one := fun cdv A outer s H E hr => by
  have nd := sc_stands_by_one.nd
  refine ⟨t_stands_by_one K P w, ?_, ?_⟩
  · exact (pss_cons (ps_asg (pv 0) (pg_tup rfl (pgs_cons (pg_name (i := 2) nd rfl (Or.inl rfl)) (pgs_cons (pg_name (i := 3) nd rfl (Or.inl rfl)) pgs_nil)))) (pss_cons (ps_if (pt_cmpR op_gt (pe_callB (cr_sum rfl) rfl T.f_sum bt_sum (pa_cons (pe_lc (own := [("start", 4), ("end", 5), ("some", 6)]) (g := (gTup K 3 (gCons (gName 4) (gCons (gName 5) (gCons (gName 6) gNil))))) (tt := tYes) (te := (tVar 6)) rfl nd (pi_list (pv 1)) (blkOk_by (N := N_stands_by_one) (sc := defScope s_stands_by_one) (by decide +kernel)) (fun _ _ _ _ _ => (pg_tup rfl (pgs_cons (pg_name (i := 4) nd rfl (by first | exact Or.inl rfl | exact Or.inr rfl)) (pgs_cons (pg_name (i := 5) nd rfl (by first | exact Or.inl rfl | exact Or.inr rfl)) (pgs_cons (pg_name (i := 6) nd rfl (by first | exact Or.inl rfl | exact Or.inr rfl)) pgs_nil))))) (fun _ _ _ _ _ => pts_nil) (fun _ _ _ _ _ => (pv 6))) pa_nil)) (pv 2) (nomark _)) (pss_one (ps_ret pe_bl)) pss_nil) (pss_one (ps_ret (pe_callB (cr_all rfl) rfl T.f_all bt_all (pa_cons (pe_lc (own := [("bound", 7)]) (g := (gName 7)) (tt := tYes) (te := (tCall (pSp (gx K) 2 fs_keeps) [] E0 (tCons (tVar 7) (tCons (tVar 1) tNil)))) rfl nd (pi_list (pv 3)) (blkOk_by (N := N_stands_by_one) (sc := defScope s_stands_by_one) (by decide +kernel)) (fun _ _ _ _ _ => (pg_name (i := 7) nd rfl (by first | exact Or.inl rfl | exact Or.inr rfl))) (fun _ _ _ _ _ => pts_nil) (fun _ _ _ _ _ => (C8.pe_c (cal_keeps T) hr (by decide) rfl (pa_cons (pv 7) (pa_cons (pv 1) pa_nil))))) pa_nil))))))
  · exact (rs_seq (rs_asg (ref_var 0) (rg_tup (rg_cons (rg_n (rn_name (vs := [2]) (by decide))) (rg_cons (rg_n (rn_name (vs := [3]) (by decide))) rg_nil gNm_ex) gNm_ex))) (rs_seq (rs_if (ref_tst (ref_op (ref_cb (ref_cons (ref_lc (ri_list (ref_var 1)) (rn_tup (rn_cons1 (by decide) (rn_cons1 (by decide) (rn_cons1 (by decide) rn_nil)))) rt_yes (ref_var 6)) ref_nil) rc_sum) (ref_var 2) rr_c)) (rs_ret (ref_c fun _ _ => rfl)) rs_next) (rs_ret (ref_cb (ref_cons (ref_lc (ri_list (ref_var 3)) (rn_name (by decide)) rt_yes (ref_call (es := []) (fun _ _ => rfl) (ref_cons (ref_var 7) (ref_cons (ref_var 1) ref_nil)))) ref_nil) rc_all))))
theorem cal_stands_by_one (T : Tp K mg base) : C8.Cal P w K mg base 2 "stands_by_one" (pSp (gx K) 2 fs_stands_by_one) [] := by
  obtain ⟨fd, F⟩ := T.c.def_ 24 (d := d_stands_by_one) rfl
  exact ⟨_, fd, ps_stands_by_one, [], fn_pure F sc_stands_by_one (bd_stands_by_one T) (fun ds DQ _ h => h), T.g_stands_by_one, F.kp, F.bindsN (fun _ _ _ _ _ _ us hl => match us, hl with | [_, _], _ => rfl), .nil⟩
end
/-! ### stands_by -/
abbrev N_stands_by : List Str := ["book", "load", "alternative"]
abbrev ps_stands_by : List Str := ["book", "load"]
theorem sc_stands_by : FnScope N_stands_by ps_stands_by (defScope s_stands_by) := ⟨rfl, rfl, rfl, by decide +kernel, rfl, by decide +kernel, by decide +kernel⟩
def m_stands_by : DTS := (dSeq (dFor (dItL (dVar 0)) (gNm 2) (dIf (dTst (dCall fs_stands_by_one [] (dCons (dVar 2) (dCons (dVar 1) dNil)))) (dRet (dC (.bl true))) dNext)) (dRet (dC (.bl false))))
def fs_stands_by : DSp := fun ds Q => m_stands_by (pureE Q) (startD 3 ds)
def t_stands_by (K : PySem.W.Frag) (P : Program) (w : World) : TS := (tSeq (tFor (iList K (tVar 0)) (gName 2) (tIfS (tB (tCall (pSp (gx K) 2 fs_stands_by_one) [] E0 (tCons (tVar 2) (tCons (tVar 1) tNil)))) (tRet (tC (.bl true))) tNext)) (tRet (tC (.bl false))))
section
variable {P : Program} {w : World} {K : PySem.W.Frag} {mg : Str → Option Value} {base : Heap}
theorem bd_stands_by (T : Tp K mg base) {f : Addr} : Body P w K mg base (gx K) N_stands_by "stands_by" (defScope s_stands_by) f 2 (defBody s_stands_by) m_stands_by := fun cdv A outer s H E hr => by
  have nd := sc_stands_by.nd
  refine ⟨t_stands_by K P w, ?_, ?_⟩
  · exact (pss_cons (ps_for PassesOwn.never rfl (pi_list (pv 0)) (pg_name (i := 2) nd rfl (by first | exact Or.inl rfl | exact Or.inr rfl)) (pss_one (ps_if (pt_val (C8.pe_c (cal_stands_by_one T) hr (by decide) rfl (pa_cons (pv 2) (pa_cons (pv 1) pa_nil)))) (pss_one (ps_ret pe_bl)) pss_nil))) (pss_one (ps_ret pe_bl)))
  · exact (rs_seq (rs_for (vs := [2]) (ri_list (ref_var 0)) (rn_name (by decide)) (rs_if (ref_tB (ref_call (es := []) (fun _ _ => rfl) (ref_cons (ref_var 2) (ref_cons (ref_var 1) ref_nil)))) (rs_ret (ref_c fun _ _ => rfl)) rs_next)) (rs_ret (ref_c fun _ _ => rfl)))
theorem cal_stands_by (T : Tp K mg base) : C8.Cal P w K mg base 3 "stands_by" (pSp (gx K) 2 fs_stands_by) [] := by
  obtain ⟨fd, F⟩ := T.c.def_ 25 (d := d_stands_by) rfl
  exact ⟨_, fd, ps_stands_by, [], fn_pure F sc_stands_by (bd_stands_by T) (fun ds DQ _ h => h), T.g_stands_by, F.kp, F.bindsN (fun _ _ _ _ _ _ us hl => match us, hl with | [_, _], _ => rfl), .nil⟩
end
/-! ### book_in -/
abbrev N_book_in : List Str := ["country", "yard", "value", "near", "found", "single", "one", "origin", "target"]
abbrev ps_book_in : List Str := ["country", "yard", "value"]
theorem sc_book_in : FnScope N_book_in ps_book_in (defScope s_book_in) := ⟨rfl, rfl, rfl, by decide +kernel, rfl, by decide +kernel, by decide +kernel⟩
def m_book_in : DTS := (dSeq (dIf (dOr (dNot (dTst (dCall fs_is_list [] (dCons (dVar 2) dNil)))) (dNot (dTst (dChain cLe cLe (dC (.int 1)) (dCB lenD (dCons (dVar 2) dNil)) (dC (.int 4)))))) (dRet (dC .non)) dNext) (dSeq (dSet 3 (dDat (dCall fs_beside [] (dCons (dVar 0) (dCons (dVar 1) dNil))))) (dSeq (dSet 4 (dDat (dLc (dItL (dVar 2)) (gNm 6) dYes (dCall fs_alternative_in [] (dCons (dVar 3) (dCons (dVar 6) dNil))) [6]))) (dSeq (dIf (dTst (dOp inOp (dC .non) (dVar 4))) (dRet (dC .non)) dNext) (dSeq (dSet 5 (dDat (dLc (dItL (dCall fs_pairs_at [] (dCons (dVar 0) (dCons (dVar 1) dNil)))) (gTp (gCn (gNm 7) (gCn (gNm 8) gNl))) dYes (dCall fs_stands_by [] (dCons (dVar 4) (dCons (dLst (dCons (dTup (dCons (dVar 7) (dCons (dVar 8) (dCons (dC (.int 1)) dNil)))) dNil)) dNil))) [7, 8]))) (dRet (dIfE (dTst (dCB allD (dCons (dVar 5) dNil))) (dVar 4) (dC .non))))))))
def fs_book_in : DSp := fun ds Q => m_book_in (pureE Q) (startD 9 ds)
def t_book_in (K : PySem.W.Frag) (P : Program) (w : World) : TS := (tSeq (tIfS (tOr (tNot (tB (tCall (pSp (gx K) 1 fs_is_list) [] E0 (tCons (tVar 2) tNil)))) (tNot (tTest (tChain rLe rLe (tC (.int 1)) (tCB (rLen2 K) (tCons (tVar 2) tNil)) (tC (.int 4)))))) (tRet (tC .non)) tNext) (tSeq (tAsg (tCall (pSp (gx K) 2 fs_beside) [] E0 (tCons (tVar 0) (tCons (tVar 1) tNil))) (gName 3)) (tSeq (tAsg (tLc (iList K (tVar 2)) (gName 6) tYes (tCall (pSp (gx K) 2 fs_alternative_in) [] E0 (tCons (tVar 3) (tCons (tVar 6) tNil))) [6]) (gName 4)) (tSeq (tIfS (tTest (tOp (rInD K) (tC .non) (tVar 4))) (tRet (tC .non)) tNext) (tSeq (tAsg (tLc (iList K (tCall (pSp (gx K) 2 fs_pairs_at) [] E0 (tCons (tVar 0) (tCons (tVar 1) tNil)))) (gTup K 2 (gCons (gName 7) (gCons (gName 8) gNil))) tYes (tCall (pSp (gx K) 2 fs_stands_by) [] E0 (tCons (tVar 4) (tCons (tLst (tCons (tTup (tCons (tVar 7) (tCons (tVar 8) (tCons (tC (.int 1)) tNil)))) tNil)) tNil))) [7, 8]) (gName 5)) (tRet (tIf (tB (tCB (rAll K) (tCons (tVar 5) tNil))) (tVar 4) (tC .non))))))))
section
variable {P : Program} {w : World} {K : PySem.W.Frag} {mg : Str → Option Value} {base : Heap}
theorem bd_book_in (T : Tp K mg base) {f : Addr} : Body P w K mg base (gx K) N_book_in "book_in" (defScope s_book_in) f 5 (defBody s_book_in) m_book_in := fun cdv A outer s H E hr => by
  obtain ⟨_, hMOST_ALTERNATIVES, rMOST_ALTERNATIVES⟩ := T.i_MOST_ALTERNATIVES
  have nd := sc_book_in.nd
  refine ⟨t_book_in K P w, ?_, ?_⟩
  · exact (pss_cons (ps_if (PW.pt (pw_or (pt_not (pt_val (C8.pe_c (cal_is_list T) hr (by decide) rfl (pa_cons (pv 2) pa_nil)))) (pw_or1 (pt_not (pt_chain op_le op_le pe_int (pe_callB cl_len rfl T.f_len bt_len (pa_cons (pv 2) pa_nil)) (pe_glob rfl hMOST_ALTERNATIVES rMOST_ALTERNATIVES)))))) (pss_one (ps_ret pe_non)) pss_nil) (pss_cons (ps_set (i := 3) nd rfl (Or.inr rfl) (C8.pe_c (cal_beside T) hr (by decide) rfl (pa_cons (pv 0) (pa_cons (pv 1) pa_nil)))) (pss_cons (ps_set (i := 4) nd rfl (Or.inr rfl) (pe_lc (own := [("one", 6)]) (g := (gName 6)) (tt := tYes) (te := (tCall (pSp (gx K) 2 fs_alternative_in) [] E0 (tCons (tVar 3) (tCons (tVar 6) tNil)))) rfl nd (pi_list (pv 2)) (blkOk_by (N := N_book_in) (sc := defScope s_book_in) (by decide +kernel)) (fun _ _ _ _ _ => (pg_name (i := 6) nd rfl (by first | exact Or.inl rfl | exact Or.inr rfl))) (fun _ _ _ _ _ => pts_nil) (fun _ _ _ _ _ => (C8.pe_c (cal_alternative_in T) hr (by decide) rfl (pa_cons (pv 3) (pa_cons (pv 6) pa_nil)))))) (pss_cons (ps_if (pt_cmpR (op_inD (hu5 hr)) pe_non (pv 4) (by with_unfolding_all rfl)) (pss_one (ps_ret pe_non)) pss_nil) (pss_cons (ps_setLc (i := 5) (own := [("origin", 7), ("target", 8)]) (g := (gTup K 2 (gCons (gName 7) (gCons (gName 8) gNil)))) (tt := tYes) (te := (tCall (pSp (gx K) 2 fs_stands_by) [] E0 (tCons (tVar 4) (tCons (tLst (tCons (tTup (tCons (tVar 7) (tCons (tVar 8) (tCons (tC (.int 1)) tNil)))) tNil)) tNil)))) rfl nd rfl rfl (sw_true rfl rfl rfl (by decide +kernel)) (pi_list (C8.pe_c (cal_pairs_at T) hr (by decide) rfl (pa_cons (pv 0) (pa_cons (pv 1) pa_nil)))) (blkOk_by (N := N_book_in) (sc := defScope s_book_in) (by decide +kernel)) (fun _ _ _ _ _ => (pg_tup rfl (pgs_cons (pg_name (i := 7) nd rfl (by first | exact Or.inl rfl | exact Or.inr rfl)) (pgs_cons (pg_name (i := 8) nd rfl (by first | exact Or.inl rfl | exact Or.inr rfl)) pgs_nil)))) (fun _ _ _ _ _ => pts_nil) (fun _ _ _ _ _ => (C8.pe_c (cal_stands_by T) hr (by decide) rfl (pa_cons (pv 4) (pa_cons (pe_lst (pa_cons (pe_tup (pa_cons (pv 7) (pa_cons (pv 8) (pa_cons pe_int pa_nil)))) pa_nil)) pa_nil))))) (pss_one (ps_ret (pe_ifExp (pt_val (pe_callB (cr_all rfl) rfl T.f_all bt_all (pa_cons (pv 5) pa_nil))) (pv 4) pe_non))))))))
  · exact (rs_seq (rs_if (ref_or (ref_not (ref_tB (ref_call (es := []) (fun _ _ => rfl) (ref_cons (ref_var 2) ref_nil)))) (ref_not (ref_tst (ref_chain (ref_c fun _ _ => rfl) (ref_cb (ref_cons (ref_var 2) ref_nil) rc_len) (ref_c fun _ _ => rfl) rr_c rr_c)))) (rs_ret (ref_c fun _ _ => rfl)) rs_next) (rs_seq (rs_set (ref_dat (ref_call (es := []) (fun _ _ => rfl) (ref_cons (ref_var 0) (ref_cons (ref_var 1) ref_nil))))) (rs_seq (rs_set (ref_dat (ref_lc (ri_list (ref_var 2)) (rn_name (by decide)) rt_yes (ref_call (es := []) (fun _ _ => rfl) (ref_cons (ref_var 3) (ref_cons (ref_var 6) ref_nil)))))) (rs_seq (rs_if (ref_tst (ref_op (ref_c fun _ _ => rfl) (ref_var 4) rr_in)) (rs_ret (ref_c fun _ _ => rfl)) rs_next) (rs_seq (rs_set (ref_dat (ref_lc (ri_list (ref_call (es := []) (fun _ _ => rfl) (ref_cons (ref_var 0) (ref_cons (ref_var 1) ref_nil)))) (rn_tup (rn_cons1 (by decide) (rn_cons1 (by decide) rn_nil))) rt_yes (ref_call (es := []) (fun _ _ => rfl) (ref_cons (ref_var 4) (ref_cons (ref_lst (ref_cons (ref_tup (ref_cons (ref_var 7) (ref_cons (ref_var 8) (ref_cons (ref_c fun _ _ => rfl) ref_nil)))) ref_nil)) ref_nil)))))) (rs_ret (ref_ifE (ref_tB (ref_cb (ref_cons (ref_var 5) ref_nil) rc_all)) (ref_var 4) (ref_c fun _ _ => rfl))))))))
theorem cal_book_in (T : Tp K mg base) : C8.Cal P w K mg base 6 "book_in" (pSp (gx K) 3 fs_book_in) [] := by
  obtain ⟨fd, F⟩ := T.c.def_ 26 (d := d_book_in) rfl
  exact ⟨_, fd, ps_book_in, [], fn_pure F sc_book_in (bd_book_in T) (fun ds DQ _ h => h), T.g_book_in, F.kp, F.bindsN (fun _ _ _ _ _ _ us hl => match us, hl with | [_, _, _], _ => rfl), .nil⟩
end
/-! ### want_book -/
abbrev N_want_book : List Str := ["country", "yard", "value", "found"]
abbrev ps_want_book : List Str := ["country", "yard", "value"]
theorem sc_want_book : FnScope N_want_book ps_want_book (defScope s_want_book) := ⟨rfl, rfl, rfl, by decide +kernel, rfl, by decide +kernel, by decide +kernel⟩
def m_want_book : DTS := (dSeq (dSet 3 (dDat (dCall fs_book_in [] (dCons (dVar 0) (dCons (dVar 1) (dCons (dVar 2) dNil)))))) (dSeq (dIf (dTst (dIsN (dVar 3))) dNever dNext) (dRet (dVar 3))))
def fs_want_book : DSp := fun ds Q => m_want_book (pureE Q) (startD 4 ds)
def t_want_book (K : PySem.W.Frag) (P : Program) (w : World) : TS := (tSeq (tAsg (tCall (pSp (gx K) 3 fs_book_in) [] E0 (tCons (tVar 0) (tCons (tVar 1) (tCons (tVar 2) tNil)))) (gName 3)) (tSeq (tIfS (tB (tIsN (tVar 3))) tNever tNext) (tRet (tVar 3))))
section
variable {P : Program} {w : World} {K : PySem.W.Frag} {mg : Str → Option Value} {base : Heap}
theorem bd_want_book (T : Tp K mg base) {f : Addr} : Body P w K mg base (gx K) N_want_book "want_book" (defScope s_want_book) f 6 (defBody s_want_book) m_want_book := fun cdv A outer s H E hr => by
  have nd := sc_want_book.nd
  refine ⟨t_want_book K P w, ?_, ?_⟩
  · exact (pss_cons (ps_set (i := 3) nd rfl (Or.inl rfl) (C8.pe_c (cal_book_in T) hr (by decide) rfl (pa_cons (pv 0) (pa_cons (pv 1) (pa_cons (pv 2) pa_nil))))) (pss_cons (ps_if (pt_cmp (pc_isN (pv 3))) (pss_one ps_never) pss_nil) (pss_one (ps_ret (pv 3)))))
  · exact (rs_seq (rs_set (ref_dat (ref_call (es := []) (fun _ _ => rfl) (ref_cons (ref_var 0) (ref_cons (ref_var 1) (ref_cons (ref_var 2) ref_nil)))))) (rs_seq (rs_if (ref_tB (ref_isN (ref_var 3))) rs_never rs_next) (rs_ret (ref_var 3))))
theorem cal_want_book (T : Tp K mg base) : C8.Cal P w K mg base 7 "want_book" (pSp (gx K) 3 fs_want_book) [] := by
  obtain ⟨fd, F⟩ := T.c.def_ 27 (d := d_want_book) rfl
  exact ⟨_, fd, ps_want_book, [], fn_pure F sc_want_book (bd_want_book T) (fun ds DQ _ h => h), T.g_want_book, F.kp, F.bindsN (fun _ _ _ _ _ _ us hl => match us, hl with | [_, _, _], _ => rfl), .nil⟩
end
/-! ### want_yard_of -/
abbrev N_want_yard_of : List Str := ["country", "yard", "here"]
abbrev ps_want_yard_of : List Str := ["country", "yard"]
theorem sc_want_yard_of : FnScope N_want_yard_of ps_want_yard_of (defScope s_want_yard_of) := ⟨rfl, rfl, rfl, by decide +kernel, rfl, by decide +kernel, by decide +kernel⟩
def m_want_yard_of : DTS := (dSeq (dSet 2 (dDat (dCall fs_want_country [] (dCons (dVar 0) dNil)))) (dSeq (dDrop (dCall fs_want_yard [] (dCons (dVar 2) (dCons (dVar 1) dNil)))) (dRet (dVar 2))))
def fs_want_yard_of : DSp := fun ds Q => m_want_yard_of (pureE Q) (startD 3 ds)
def t_want_yard_of (K : PySem.W.Frag) (P : Program) (w : World) : TS := (tSeq (tAsg (tCall (pSp (gx K) 1 fs_want_country) [] E0 (tCons (tVar 0) tNil)) (gName 2)) (tSeq (tDrop (tCall (pSp (gx K) 2 fs_want_yard) [] E0 (tCons (tVar 2) (tCons (tVar 1) tNil)))) (tRet (tVar 2))))
section
variable {P : Program} {w : World} {K : PySem.W.Frag} {mg : Str → Option Value} {base : Heap}
theorem bd_want_yard_of (T : Tp K mg base) {f : Addr} : Body P w K mg base (gx K) N_want_yard_of "want_yard_of" (defScope s_want_yard_of) f 5 (defBody s_want_yard_of) m_want_yard_of := fun cdv A outer s H E hr => by
  have nd := sc_want_yard_of.nd
  refine ⟨t_want_yard_of K P w, ?_, ?_⟩
  · exact (pss_cons (ps_set (i := 2) nd rfl (Or.inl rfl) (C8.pe_c (cal_want_country T) hr (by decide) rfl (pa_cons (pv 0) pa_nil))) (pss_cons (ps_expr (C8.pe_c (cal_want_yard T) hr (by decide) rfl (pa_cons (pv 2) (pa_cons (pv 1) pa_nil)))) (pss_one (ps_ret (pv 2)))))
  · exact (rs_seq (rs_set (ref_dat (ref_call (es := []) (fun _ _ => rfl) (ref_cons (ref_var 0) ref_nil)))) (rs_seq (rs_drop (ref_call (es := []) (fun _ _ => rfl) (ref_cons (ref_var 2) (ref_cons (ref_var 1) ref_nil)))) (rs_ret (ref_var 2))))
theorem cal_want_yard_of (T : Tp K mg base) : C8.Cal P w K mg base 6 "want_yard_of" (pSp (gx K) 2 fs_want_yard_of) [] := by
  obtain ⟨fd, F⟩ := T.c.def_ 29 (d := d_want_yard_of) rfl
  exact ⟨_, fd, ps_want_yard_of, [], fn_pure F sc_want_yard_of (bd_want_yard_of T) (fun ds DQ _ h => h), T.g_want_yard_of, F.kp, F.bindsN (fun _ _ _ _ _ _ us hl => match us, hl with | [_, _], _ => rfl), .nil⟩
end
/-! ### want_neighbour -/
abbrev N_want_neighbour : List Str := ["country", "yard", "value"]
abbrev ps_want_neighbour : List Str := ["country", "yard", "value"]
theorem sc_want_neighbour : FnScope N_want_neighbour ps_want_neighbour (defScope s_want_neighbour) := ⟨rfl, rfl, rfl, by decide +kernel, rfl, by decide +kernel, by decide +kernel⟩
def m_want_neighbour : DTS := (dIf (dOr (dNot (dTst (dCall fs_is_place [] (dCons (dVar 0) (dCons (dVar 2) dNil))))) (dTst (dOp niOp (dVar 2) (dCall fs_beside [] (dCons (dVar 0) (dCons (dVar 1) dNil)))))) dNever dNext)
def fs_want_neighbour : DSp := fun ds Q => m_want_neighbour (pureE Q) (startD 3 ds)
def t_want_neighbour (K : PySem.W.Frag) (P : Program) (w : World) : TS := (tIfS (tOr (tNot (tB (tCall (pSp (gx K) 2 fs_is_place) [] E0 (tCons (tVar 0) (tCons (tVar 2) tNil))))) (tTest (tOp (rNotInD K) (tVar 2) (tCall (pSp (gx K) 2 fs_beside) [] E0 (tCons (tVar 0) (tCons (tVar 1) tNil)))))) tNever tNext)
section
variable {P : Program} {w : World} {K : PySem.W.Frag} {mg : Str → Option Value} {base : Heap}
theorem bd_want_neighbour (T : Tp K mg base) {f : Addr} : Body P w K mg base (gx K) N_want_neighbour "want_neighbour" (defScope s_want_neighbour) f 3 (defBody s_want_neighbour) m_want_neighbour := fun cdv A outer s H E hr => by
  have nd := sc_want_neighbour.nd
  refine ⟨t_want_neighbour K P w, ?_, ?_⟩
  · exact (pss_one (ps_if (PW.pt (pw_or (pt_not (pt_val (C8.pe_c (cal_is_place T) hr (by decide) rfl (pa_cons (pv 0) (pa_cons (pv 2) pa_nil))))) (pw_or1 (pt_cmpR (op_notInD (hu5 hr)) (pv 2) (C8.pe_c (cal_beside T) hr (by decide) rfl (pa_cons (pv 0) (pa_cons (pv 1) pa_nil))) (by with_unfolding_all rfl))))) (pss_one ps_never) pss_nil))
  · exact (rs_if (ref_or (ref_not (ref_tB (ref_call (es := []) (fun _ _ => rfl) (ref_cons (ref_var 0) (ref_cons (ref_var 2) ref_nil))))) (ref_tst (ref_op (ref_var 2) (ref_call (es := []) (fun _ _ => rfl) (ref_cons (ref_var 0) (ref_cons (ref_var 1) ref_nil))) rr_ni))) rs_never rs_next)
theorem cal_want_neighbour (T : Tp K mg base) : C8.Cal P w K mg base 4 "want_neighbour" (pSp (gx K) 3 fs_want_neighbour) [] := by
  obtain ⟨fd, F⟩ := T.c.def_ 30 (d := d_want_neighbour) rfl
  exact ⟨_, fd, ps_want_neighbour, [], fn_pure F sc_want_neighbour (bd_want_neighbour T) (fun ds DQ _ h => h), T.g_want_neighbour, F.kp, F.bindsN (fun _ _ _ _ _ _ us hl => match us, hl with | [_, _, _], _ => rfl), .nil⟩
end
/-! ### Web -/
abbrev N_Web_init : List Str := ["self", "country", "books", "here", "yards", "yard", "book"]
abbrev ps_Web_init : List Str := ["self", "country", "books"]
theorem sc_Web_init : FnScope N_Web_init ps_Web_init (defScope s_Web_init) := ⟨rfl, rfl, rfl, by decide +kernel, rfl, by decide +kernel, by decide +kernel⟩
def m_Web_init : DTS := (dSeq (dSet 3 (dDat (dCall fs_want_country [] (dCons (dVar 1) dNil)))) (dSeq (dSet 4 (dDat (dCall fs_yards_in [] (dCons (dVar 3) dNil)))) (dSeq (dIf (dOr (dNot (dTst (dCall fs_is_list [] (dCons (dVar 2) dNil)))) (dTst (dOp neOp (dCB lenD (dCons (dVar 2) dNil)) (dCB lenD (dCons (dVar 4) dNil))))) dNever dNext) (dSeq (dFldS 1 0 0 (dVar 3)) (dFldS 1 0 1 (dLc (dZip (dCons (dVar 4) (dCons (dVar 2) dNil))) (gTp (gCn (gNm 5) (gCn (gNm 6) gNl))) dYes (dCall fs_want_book [] (dCons (dVar 3) (dCons (dVar 5) (dCons (dVar 6) dNil)))) [5, 6]))))))
def fs_Web_init : List D → (List D → Prop) → Prop := fun ds Q => ∀ p, m_Web_init (makeE p 1 Q) (startM p 1 7 ds)
def t_Web_init (K : PySem.W.Frag) (P : Program) (w : World) : TS := (tSeq (tAsg (tCall (pSp (gx K) 1 fs_want_country) [] E0 (tCons (tVar 1) tNil)) (gName 3)) (tSeq (tAsg (tCall (pSp (gx K) 1 fs_yards_in) [] E0 (tCons (tVar 3) tNil)) (gName 4)) (tSeq (tIfS (tOr (tNot (tB (tCall (pSp (gx K) 1 fs_is_list) [] E0 (tCons (tVar 2) tNil)))) (tTest (tOp (rNeD K) (tCB (rLen2 K) (tCons (tVar 2) tNil)) (tCB (rLen2 K) (tCons (tVar 4) tNil))))) tNever tNext) (tSeq (sFld K (tVar 0) (tVar 3) "own_country") (sFld K (tVar 0) (tLc (iZip K (tCons (tVar 4) (tCons (tVar 2) tNil))) (gTup K 2 (gCons (gName 5) (gCons (gName 6) gNil))) tYes (tCall (pSp (gx K) 3 fs_want_book) [] E0 (tCons (tVar 3) (tCons (tVar 5) (tCons (tVar 6) tNil)))) [5, 6]) "own_books")))))
section
variable {P : Program} {w : World} {K : PySem.W.Frag} {mg : Str → Option Value} {base : Heap}
theorem bd_Web_init (T : Tp K mg base) {f : Addr} : Body P w K mg base (gx K) N_Web_init "Web.__init__" (defScope s_Web_init) f 7 (defBody s_Web_init) m_Web_init := fun cdv A outer s H E hr => by
  have nd := sc_Web_init.nd
  refine ⟨t_Web_init K P w, ?_, ?_⟩
  · exact (pss_cons (ps_set (i := 3) nd rfl (Or.inr rfl) (C8.pe_c (cal_want_country T) hr (by decide) rfl (pa_cons (pv 1) pa_nil))) (pss_cons (ps_set (i := 4) nd rfl (Or.inl rfl) (C8.pe_c (cal_yards_in T) hr (by decide) rfl (pa_cons (pv 3) pa_nil))) (pss_cons (ps_if (PW.pt (pw_or (pt_not (pt_val (C8.pe_c (cal_is_list T) hr (by decide) rfl (pa_cons (pv 2) pa_nil)))) (pw_or1 (pt_cmpR (op_neD (hu4 hr)) (pe_callB cl_len rfl T.f_len bt_len (pa_cons (pv 2) pa_nil)) (pe_callB cl_len rfl T.f_len bt_len (pa_cons (pv 4) pa_nil)) (nomark _))))) (pss_one ps_never) pss_nil) (pss_cons (ps_fld (pv 0) (pv 3) rfl) (pss_one (ps_fld (pv 0) (pe_lc (own := [("yard", 5), ("book", 6)]) (g := (gTup K 2 (gCons (gName 5) (gCons (gName 6) gNil)))) (tt := tYes) (te := (tCall (pSp (gx K) 3 fs_want_book) [] E0 (tCons (tVar 3) (tCons (tVar 5) (tCons (tVar 6) tNil))))) rfl nd (pi_zip rfl T.f_zip (pa_cons (pv 4) (pa_cons (pv 2) pa_nil))) (blkOk_by (N := N_Web_init) (sc := defScope s_Web_init) (by decide +kernel)) (fun _ _ _ _ _ => (pg_tup rfl (pgs_cons (pg_name (i := 5) nd rfl (by first | exact Or.inl rfl | exact Or.inr rfl)) (pgs_cons (pg_name (i := 6) nd rfl (by first | exact Or.inl rfl | exact Or.inr rfl)) pgs_nil)))) (fun _ _ _ _ _ => pts_nil) (fun _ _ _ _ _ => (C8.pe_c (cal_want_book T) hr (by decide) rfl (pa_cons (pv 3) (pa_cons (pv 5) (pa_cons (pv 6) pa_nil)))))) rfl))))))
  · exact (rs_seq (rs_set (ref_dat (ref_call (es := []) (fun _ _ => rfl) (ref_cons (ref_var 1) ref_nil)))) (rs_seq (rs_set (ref_dat (ref_call (es := []) (fun _ _ => rfl) (ref_cons (ref_var 3) ref_nil)))) (rs_seq (rs_if (ref_or (ref_not (ref_tB (ref_call (es := []) (fun _ _ => rfl) (ref_cons (ref_var 2) ref_nil)))) (ref_tst (ref_op (ref_cb (ref_cons (ref_var 2) ref_nil) rc_len) (ref_cb (ref_cons (ref_var 4) ref_nil) rc_len) rr_ne))) rs_never rs_next) (rs_seq (rs_fldS (k := 1) T.ok1 rfl (ref_var 3)) (rs_fldS (k := 1) T.ok1 rfl (ref_lc (ri_zip (ref_cons (ref_var 4) (ref_cons (ref_var 2) ref_nil))) (rn_tup (rn_cons1 (by decide) (rn_cons1 (by decide) rn_nil))) rt_yes (ref_call (es := []) (fun _ _ => rfl) (ref_cons (ref_var 3) (ref_cons (ref_var 5) (ref_cons (ref_var 6) ref_nil))))))))))
theorem mak_Web (T : Tp K mg base) : C8.Mak P w K mg base 8 "Web" (He.ga K "Web") (mSp (gx K) 1 2 fs_Web_init) [] := by
  obtain ⟨fd, F⟩ := T.c.def_ 31 (d := d_Web_init) rfl
  exact ⟨_, fd, ps_Web_init, [], T.m_Web, fn_make F sc_Web_init (bd_Web_init T) rfl (fun p ds DQ _ h => h p), T.g_Web, F.bindsN (fun _ _ _ _ _ _ us hl => match us, hl with | [_, _, _], _ => rfl), .nil⟩
end
/-! ### book_at -/
abbrev N_book_at : List Str := ["web", "yard"]
abbrev ps_book_at : List Str := ["web", "yard"]
theorem sc_book_at : FnScope N_book_at ps_book_at (defScope s_book_at) := ⟨rfl, rfl, rfl, by decide +kernel, rfl, by decide +kernel, by decide +kernel⟩
def m_book_at : DTS := (dRet (dOp ixOp (dFldV 1 0 1) (dIndex (dCall fs_yards_in [] (dCons (dFldV 1 0 0) dNil)) (dVar 1))))
def fs_book_at : DSp := fun ds Q => m_book_at (pureE Q) (startD 2 ds)
def t_book_at (K : PySem.W.Frag) (P : Program) (w : World) : TS := (tRet (tOp (rIx K) (tFld K (tVar 0) "own_books") (tBM K "list" (rIndexD K) (tCall (pSp (gx K) 1 fs_yards_in) [] E0 (tCons (tFld K (tVar 0) "own_country") tNil)) (tCons (tVar 1) tNil))))
section
variable {P : Program} {w : World} {K : PySem.W.Frag} {mg : Str → Option Value} {base : Heap}
theorem bd_book_at (T : Tp K mg base) {f : Addr} : Body P w K mg base (gx K) N_book_at "book_at" (defScope s_book_at) f 1 (defBody s_book_at) m_book_at := fun cdv A outer s H E hr => by
  have nd := sc_book_at.nd
  refine ⟨t_book_at K P w, ?_, ?_⟩
  · exact (pss_one (ps_ret (pe_ix ix_seq (pe_fld (pv 0) rfl) (pe_bm PySem.F.plainAttrs_list PySem.F.slot_list_index PySem.F.type_list_index (mt_indexD (hu5 hr)) (C8.pe_c (cal_yards_in T) hr (by decide) rfl (pa_cons (pe_fld (pv 0) rfl) pa_nil)) (pa_cons (pv 1) pa_nil)) (fun _ _ => rfl))))
  · exact (rs_ret (ref_op (ref_fldV (k := 1) T.ok1 rfl) (ref_index (ref_call (es := []) (fun _ _ => rfl) (ref_cons (ref_fldV (k := 1) T.ok1 rfl) ref_nil)) (ref_var 1)) rr_ix))
theorem cal_book_at (T : Tp K mg base) : C8.Cal P w K mg base 2 "book_at" (pSp (gx K) 2 fs_book_at) [] := by
  obtain ⟨fd, F⟩ := T.c.def_ 32 (d := d_book_at) rfl
  exact ⟨_, fd, ps_book_at, [], fn_pure F sc_book_at (bd_book_at T) (fun ds DQ _ h => h), T.g_book_at, F.kp, F.bindsN (fun _ _ _ _ _ _ us hl => match us, hl with | [_, _], _ => rfl), .nil⟩
end
/-! ### country_of -/
abbrev N_country_of : List Str := ["web"]
abbrev ps_country_of : List Str := ["web"]
theorem sc_country_of : FnScope N_country_of ps_country_of (defScope s_country_of) := ⟨rfl, rfl, rfl, by decide +kernel, rfl, by decide +kernel, by decide +kernel⟩
def m_country_of : DTS := (dRet (dFldV 1 0 0))
def fs_country_of : DSp := fun ds Q => m_country_of (pureE Q) (startD 1 ds)
def t_country_of (K : PySem.W.Frag) (P : Program) (w : World) : TS := (tRet (tFld K (tVar 0) "own_country"))
section
variable {P : Program} {w : World} {K : PySem.W.Frag} {mg : Str → Option Value} {base : Heap}
theorem bd_country_of (T : Tp K mg base) {f : Addr} : Body P w K mg base (gx K) N_country_of "country_of" (defScope s_country_of) f 0 (defBody s_country_of) m_country_of := fun cdv A outer s H E hr => by
  have nd := sc_country_of.nd
  refine ⟨t_country_of K P w, ?_, ?_⟩
  · exact (pss_one (ps_ret (pe_fld (pv 0) rfl)))
  · exact (rs_ret (ref_fldV (k := 1) T.ok1 rfl))
theorem cal_country_of (T : Tp K mg base) : C8.Cal P w K mg base 1 "country_of" (pSp (gx K) 1 fs_country_of) [] := by
  obtain ⟨fd, F⟩ := T.c.def_ 33 (d := d_country_of) rfl
  exact ⟨_, fd, ps_country_of, [], fn_pure F sc_country_of (bd_country_of T) (fun ds DQ _ h => h), T.g_country_of, F.kp, F.bindsN (fun _ _ _ _ _ _ us hl => match us, hl with | [_], _ => rfl), .nil⟩
end
/-! ### want_web -/
abbrev N_want_web : List Str := ["value"]
abbrev ps_want_web : List Str := ["value"]
theorem sc_want_web : FnScope N_want_web ps_want_web (defScope s_want_web) := ⟨rfl, rfl, rfl, by decide +kernel, rfl, by decide +kernel, by decide +kernel⟩
def m_want_web : DTS := (dSeq (dIf (dNot (dTst (dIsCl 1 (dVar 0)))) dNever dNext) (dRet (dVar 0)))
def fs_want_web : DSp := fun ds Q => m_want_web (pureE Q) (startD 1 ds)
def t_want_web (K : PySem.W.Frag) (P : Program) (w : World) : TS := (tSeq (tIfS (tNot (tB (tCB (rIsi K) (tCons (tVar 0) (tCons (tC (.ref (He.ga K "Web"))) tNil))))) tNever tNext) (tRet (tVar 0)))
section
variable {P : Program} {w : World} {K : PySem.W.Frag} {mg : Str → Option Value} {base : Heap}
theorem bd_want_web (T : Tp K mg base) {f : Addr} : Body P w K mg base (gx K) N_want_web "want_web" (defScope s_want_web) f 0 (defBody s_want_web) m_want_web := fun cdv A outer s H E hr => by
  have nd := sc_want_web.nd
  refine ⟨t_want_web K P w, ?_, ?_⟩
  · exact (pss_cons (ps_if (pt_not (pt_val (pe_callB cl_isi rfl T.f_isinstance bt_isinstance (pa_cons (pv 0) (pa_cons (pe_glob rfl T.g_Web rfl) pa_nil))))) (pss_one ps_never) pss_nil) (pss_one (ps_ret (pv 0))))
  · exact (rs_seq (rs_if (ref_not (ref_tB (ref_isCl (c := 1) T.ok1 T.is1 (ref_var 0)))) rs_never rs_next) (rs_ret (ref_var 0)))
theorem cal_want_web (T : Tp K mg base) : C8.Cal P w K mg base 1 "want_web" (pSp (gx K) 1 fs_want_web) [] := by
  obtain ⟨fd, F⟩ := T.c.def_ 34 (d := d_want_web) rfl
  exact ⟨_, fd, ps_want_web, [], fn_pure F sc_want_web (bd_want_web T) (fun ds DQ _ h => h), T.g_want_web, F.kp, F.bindsN (fun _ _ _ _ _ _ us hl => match us, hl with | [_], _ => rfl), .nil⟩
end
/-! ### standing_by -/
abbrev N_standing_by : List Str := ["book", "pairs", "most", "found", "last", "later", "load", "first", "at", "more"]
abbrev ps_standing_by : List Str := ["book", "pairs", "most"]
theorem sc_standing_by : FnScope N_standing_by ps_standing_by (defScope s_standing_by) := ⟨rfl, rfl, rfl, by decide +kernel, rfl, by decide +kernel, by decide +kernel⟩
def m_standing_by : DTS := (dSeq (dPar 3 4 (dOwnL (dCons (dLst dNil) dNil)) (dDat (dLst (dCons (dTup (dCons (dLst dNil) (dCons (dC (.int 0)) dNil))) dNil)))) (dSeq (dWhile (dTst (dOp neOp (dVar 4) (dLst dNil))) (dSeq (dSet 5 (dOwnL dNil)) (dSeq (dFor (dItL (dVar 4)) (gTp (gCn (gNm 6) (gCn (gNm 7) gNl))) (dFor (dRg2 (dCons (dVar 7) (dCons (dCB lenD (dCons (dVar 1) dNil)) dNil))) (gNm 8) (dSeq (dSet 9 (dDat (dCall fs_plus_cart [] (dCons (dVar 6) (dCons (dOp ixOp (dOp ixOp (dVar 1) (dVar 8)) (dC (.int 0))) (dCons (dOp ixOp (dOp ixOp (dVar 1) (dVar 8)) (dC (.int 1))) dNil)))))) (dIf (dTst (dCall fs_stands_by [] (dCons (dVar 0) (dCons (dVar 9) dNil)))) (dAppend 5 (dTup (dCons (dVar 9) (dCons (dVar 8) dNil)))) dNext)))) (dSeq (dExtend 3 (dLc (dItL (dVar 5)) (gTp (gCn (gNm 6) (gCn (gNm 8) gNl))) dYes (dVar 6) [6, 8])) (dSeq (dIf (dAnd (dTst (dNotN (dVar 2))) (dTst (dOp cGt (dLenO 3) (dVar 2)))) (dRet (dC .non)) dNext) (dSet 4 (dDat (dVar 5)))))))) (dRet (dVar 3))))
def fs_standing_by : DSp := fun ds Q => m_standing_by (pureE Q) (startD 10 ds)
def t_standing_by (K : PySem.W.Frag) (P : Program) (w : World) : TS := (tSeq (tPar 3 4 (tCons (tLst (tCons (tLst tNil) tNil)) (tCons (tLst (tCons (tTup (tCons (tLst tNil) (tCons (tC (.int 0)) tNil))) tNil)) tNil))) (tSeq (tWhile (tTest (tOp (rNeD K) (tVar 4) (tLst tNil))) (tSeq (tAsg (tLst tNil) (gName 5)) (tSeq (tFor (iList K (tVar 4)) (gTup K 2 (gCons (gName 6) (gCons (gName 7) gNil))) (tFor (iRng2 (tCons (tVar 7) (tCons (tCB (rLen2 K) (tCons (tVar 1) tNil)) tNil))) (gName 8) (tSeq (tAsg (tCall (pSp (gx K) 3 fs_plus_cart) [] E0 (tCons (tVar 6) (tCons (tOp (rIx K) (tOp (rIx K) (tVar 1) (tVar 8)) (tC (.int 0))) (tCons (tOp (rIx K) (tOp (rIx K) (tVar 1) (tVar 8)) (tC (.int 1))) tNil)))) (gName 9)) (tIfS (tB (tCall (pSp (gx K) 2 fs_stands_by) [] E0 (tCons (tVar 0) (tCons (tVar 9) tNil)))) (tDrop (tBM K "list" rAppend (tVar 5) (tCons (tTup (tCons (tVar 9) (tCons (tVar 8) tNil))) tNil))) tNext)))) (tSeq (tDrop (tBM K "list" rExtend (tVar 3) (tCons (tLc (iList K (tVar 5)) (gTup K 2 (gCons (gName 6) (gCons (gName 8) gNil))) tYes (tVar 6) [6, 8]) tNil))) (tSeq (tIfS (tAnd (tB (tNotN (tVar 2))) (tTest (tOp rGt (tCB (rLen2 K) (tCons (tVar 3) tNil)) (tVar 2)))) (tRet (tC .non)) tNext) (tAsg (tVar 5) (gName 4))))))) (tRet (tVar 3))))
section
variable {P : Program} {w : World} {K : PySem.W.Frag} {mg : Str → Option Value} {base : Heap}
theorem bd_standing_by (T : Tp K mg base) {f : Addr} : Body P w K mg base (gx K) N_standing_by "standing_by" (defScope s_standing_by) f 3 (defBody s_standing_by) m_standing_by := fun cdv A outer s H E hr => by
  have nd := sc_standing_by.nd
  refine ⟨t_standing_by K P w, ?_, ?_⟩
  · exact (pss_cons (ps_par (i := 3) (j := 4) rfl nd rfl rfl (by decide) rfl rfl (pa_cons (pe_lst (pa_cons (pe_lst pa_nil) pa_nil)) (pa_cons (pe_lst (pa_cons (pe_tup (pa_cons (pe_lst pa_nil) (pa_cons pe_int pa_nil))) pa_nil)) pa_nil)) rfl) (pss_cons (ps_while PassesOwn.never (pt_cmpR (op_neD (hu4 hr)) (pv 4) (pe_lst pa_nil) (nomark _)) (pss_cons (ps_set (i := 5) nd rfl (Or.inl rfl) (pe_lst pa_nil)) (pss_cons (ps_for PassesOwn.never rfl (pi_list (pv 4)) (pg_tup rfl (pgs_cons (pg_name (i := 6) nd rfl (by first | exact Or.inl rfl | exact Or.inr rfl)) (pgs_cons (pg_name (i := 7) nd rfl (by first | exact Or.inl rfl | exact Or.inr rfl)) pgs_nil))) (pss_one (ps_for PassesOwn.never rfl (pi_range2 rfl T.f_range (pa_cons (pv 7) (pa_cons (pe_callB cl_len rfl T.f_len bt_len (pa_cons (pv 1) pa_nil)) pa_nil))) (pg_name (i := 8) nd rfl (by first | exact Or.inl rfl | exact Or.inr rfl)) (pss_cons (ps_set (i := 9) nd rfl (Or.inl rfl) (C8.pe_c (cal_plus_cart T) hr (by decide) rfl (pa_cons (pv 6) (pa_cons (pe_ix ix_seq (pe_ix ix_seq (pv 1) (pv 8) (fun _ _ => rfl)) pe_int (fun _ _ => rfl)) (pa_cons (pe_ix ix_seq (pe_ix ix_seq (pv 1) (pv 8) (fun _ _ => rfl)) pe_int (fun _ _ => rfl)) pa_nil))))) (pss_one (ps_if (pt_val (C8.pe_c (cal_stands_by T) hr (by decide) rfl (pa_cons (pv 0) (pa_cons (pv 9) pa_nil)))) (pss_one (ps_expr (pe_bm PySem.F.plainAttrs_list PySem.F.slot_list_append PySem.F.type_list_append mt_append (pv 5) (pa_cons (pe_tup (pa_cons (pv 9) (pa_cons (pv 8) pa_nil))) pa_nil)))) pss_nil)))))) (pss_cons (ps_expr (pe_bm PySem.F.plainAttrs_list PySem.F.slot_list_extend PySem.F.type_list_extend mt_extend (pv 3) (pa_cons (pe_lc (own := [("load", 6), ("at", 8)]) (g := (gTup K 2 (gCons (gName 6) (gCons (gName 8) gNil)))) (tt := tYes) (te := (tVar 6)) rfl nd (pi_list (pv 5)) (blkOk_by (N := N_standing_by) (sc := defScope s_standing_by) (by decide +kernel)) (fun _ _ _ _ _ => (pg_tup rfl (pgs_cons (pg_name (i := 6) nd rfl (by first | exact Or.inl rfl | exact Or.inr rfl)) (pgs_cons (pg_name (i := 8) nd rfl (by first | exact Or.inl rfl | exact Or.inr rfl)) pgs_nil)))) (fun _ _ _ _ _ => pts_nil) (fun _ _ _ _ _ => (pv 6))) pa_nil))) (pss_cons (ps_if (PW.pt (pw_and (pt_cmp (pc_notN (pv 2))) (pw_and1 (pt_cmpR op_gt (pe_callB cl_len rfl T.f_len bt_len (pa_cons (pv 3) pa_nil)) (pv 2) (nomark _))))) (pss_one (ps_ret pe_non)) pss_nil) (pss_one (ps_set (i := 4) nd rfl (Or.inl rfl) (pv 5)))))))) (pss_one (ps_ret (pv 3)))))
  · exact (rs_seq (rs_par (by decide) (ref_ownL (ref_cons (ref_lst ref_nil) ref_nil)) (ref_dat (ref_lst (ref_cons (ref_tup (ref_cons (ref_lst ref_nil) (ref_cons (ref_c fun _ _ => rfl) ref_nil))) ref_nil)))) (rs_seq (rs_while (ref_tst (ref_op (ref_var 4) (ref_lst ref_nil) rr_ne)) (rs_seq (rs_set (ref_ownL ref_nil)) (rs_seq (rs_for (vs := [6, 7]) (ri_list (ref_var 4)) (rn_tup (rn_cons1 (by decide) (rn_cons1 (by decide) rn_nil))) (rs_for (vs := [8]) (ri_rg2 (ref_cons (ref_var 7) (ref_cons (ref_cb (ref_cons (ref_var 1) ref_nil) rc_len) ref_nil))) (rn_name (by decide)) (rs_seq (rs_set (ref_dat (ref_call (es := []) (fun _ _ => rfl) (ref_cons (ref_var 6) (ref_cons (ref_op (ref_op (ref_var 1) (ref_var 8) rr_ix) (ref_c fun _ _ => rfl) rr_ix) (ref_cons (ref_op (ref_op (ref_var 1) (ref_var 8) rr_ix) (ref_c fun _ _ => rfl) rr_ix) ref_nil)))))) (rs_if (ref_tB (ref_call (es := []) (fun _ _ => rfl) (ref_cons (ref_var 0) (ref_cons (ref_var 9) ref_nil)))) (rs_append (ref_tup (ref_cons (ref_var 9) (ref_cons (ref_var 8) ref_nil)))) rs_next)))) (rs_seq (rs_extend (ref_lc (ri_list (ref_var 5)) (rn_tup (rn_cons1 (by decide) (rn_cons1 (by decide) rn_nil))) rt_yes (ref_var 6))) (rs_seq (rs_if (ref_and (ref_tB (ref_notN (ref_var 2))) (ref_tst (ref_op ref_lenO (ref_var 2) rr_c))) (rs_ret (ref_c fun _ _ => rfl)) rs_next) (rs_set (ref_dat (ref_var 5)))))))) (rs_ret (ref_var 3))))
theorem cal_standing_by (T : Tp K mg base) : C8.Cal P w K mg base 4 "standing_by" (pSp (gx K) 3 fs_standing_by) [.non] := by
  obtain ⟨fd, F⟩ := T.c.def_ 35 (d := d_standing_by) rfl
  obtain ⟨ds, hv, hb⟩ := FunD.binds1 (ps := ps_standing_by) F 2 0 (fun z => nomatch z) rfl fun TT kV doc pm an cdv ct us its h1 h2 => match us, its, h1, h2 with | [_, _], [_], _, _ => ⟨_, rfl, rfl⟩
  exact ⟨_, fd, ps_standing_by, ds, fn_pure F sc_standing_by (bd_standing_by T) (fun ds DQ _ h => h), T.g_standing_by, F.kp, hb, hv⟩
end
/-! ### are_refused -/
abbrev N_are_refused : List Str := ["book", "load", "pairs", "origin", "target"]
abbrev ps_are_refused : List Str := ["book", "load", "pairs"]
theorem sc_are_refused : FnScope N_are_refused ps_are_refused (defScope s_are_refused) := ⟨rfl, rfl, rfl, by decide +kernel, rfl, by decide +kernel, by decide +kernel⟩
def m_are_refused : DTS := (dRet (dNotV (dCB anyD (dCons (dLc (dItL (dVar 2)) (gTp (gCn (gNm 3) (gCn (gNm 4) gNl))) dYes (dCall fs_stands_by [] (dCons (dVar 0) (dCons (dCall fs_plus_cart [] (dCons (dVar 1) (dCons (dVar 3) (dCons (dVar 4) dNil)))) dNil))) [3, 4]) dNil))))
def fs_are_refused : DSp := fun ds Q => m_are_refused (pureE Q) (startD 5 ds)
def t_are_refused (K : PySem.W.Frag) (P : Program) (w : World) : TS := (tRet (tNotV (tCB (rAny K) (tCons (tLc (iList K (tVar 2)) (gTup K 2 (gCons (gName 3) (gCons (gName 4) gNil))) tYes (tCall (pSp (gx K) 2 fs_stands_by) [] E0 (tCons (tVar 0) (tCons (tCall (pSp (gx K) 3 fs_plus_cart) [] E0 (tCons (tVar 1) (tCons (tVar 3) (tCons (tVar 4) tNil)))) tNil))) [3, 4]) tNil))))
section
variable {P : Program} {w : World} {K : PySem.W.Frag} {mg : Str → Option Value} {base : Heap}
theorem bd_are_refused (T : Tp K mg base) {f : Addr} : Body P w K mg base (gx K) N_are_refused "are_refused" (defScope s_are_refused) f 3 (defBody s_are_refused) m_are_refused := fun cdv A outer s H E hr => by
  have nd := sc_are_refused.nd
  refine ⟨t_are_refused K P w, ?_, ?_⟩
  · exact (pss_one (ps_ret (pe_not (pe_callB (cr_any rfl) rfl T.f_any bt_any (pa_cons (pe_lc (own := [("origin", 3), ("target", 4)]) (g := (gTup K 2 (gCons (gName 3) (gCons (gName 4) gNil)))) (tt := tYes) (te := (tCall (pSp (gx K) 2 fs_stands_by) [] E0 (tCons (tVar 0) (tCons (tCall (pSp (gx K) 3 fs_plus_cart) [] E0 (tCons (tVar 1) (tCons (tVar 3) (tCons (tVar 4) tNil)))) tNil)))) rfl nd (pi_list (pv 2)) (blkOk_by (N := N_are_refused) (sc := defScope s_are_refused) (by decide +kernel)) (fun _ _ _ _ _ => (pg_tup rfl (pgs_cons (pg_name (i := 3) nd rfl (by first | exact Or.inl rfl | exact Or.inr rfl)) (pgs_cons (pg_name (i := 4) nd rfl (by first | exact Or.inl rfl | exact Or.inr rfl)) pgs_nil)))) (fun _ _ _ _ _ => pts_nil) (fun _ _ _ _ _ => (C8.pe_c (cal_stands_by T) hr (by decide) rfl (pa_cons (pv 0) (pa_cons (C8.pe_c (cal_plus_cart T) hr (by decide) rfl (pa_cons (pv 1) (pa_cons (pv 3) (pa_cons (pv 4) pa_nil)))) pa_nil))))) pa_nil)))))
  · exact (rs_ret (ref_notV (ref_cb (ref_cons (ref_lc (ri_list (ref_var 2)) (rn_tup (rn_cons1 (by decide) (rn_cons1 (by decide) rn_nil))) rt_yes (ref_call (es := []) (fun _ _ => rfl) (ref_cons (ref_var 0) (ref_cons (ref_call (es := []) (fun _ _ => rfl) (ref_cons (ref_var 1) (ref_cons (ref_var 3) (ref_cons (ref_var 4) ref_nil)))) ref_nil)))) ref_nil) rc_any)))
theorem cal_are_refused (T : Tp K mg base) : C8.Cal P w K mg base 4 "are_refused" (pSp (gx K) 3 fs_are_refused) [] := by
  obtain ⟨fd, F⟩ := T.c.def_ 36 (d := d_are_refused) rfl
  exact ⟨_, fd, ps_are_refused, [], fn_pure F sc_are_refused (bd_are_refused T) (fun ds DQ _ h => h), T.g_are_refused, F.kp, F.bindsN (fun _ _ _ _ _ _ us hl => match us, hl with | [_, _, _], _ => rfl), .nil⟩
end
/-! ### pairs_towards -/
abbrev N_pairs_towards : List Str := ["country", "yard", "target", "pair"]
abbrev ps_pairs_towards : List Str := ["country", "yard", "target"]
theorem sc_pairs_towards : FnScope N_pairs_towards ps_pairs_towards (defScope s_pairs_towards) := ⟨rfl, rfl, rfl, by decide +kernel, rfl, by decide +kernel, by decide +kernel⟩
def m_pairs_towards : DTS := (dRet (dLc (dItL (dCall fs_pairs_at [] (dCons (dVar 0) (dCons (dVar 1) dNil)))) (gNm 3) (dTst (dOp eqOp (dOp ixOp (dVar 3) (dC (.int 1))) (dVar 2))) (dVar 3) [3]))
def fs_pairs_towards : DSp := fun ds Q => m_pairs_towards (pureE Q) (startD 4 ds)
def t_pairs_towards (K : PySem.W.Frag) (P : Program) (w : World) : TS := (tRet (tLc (iList K (tCall (pSp (gx K) 2 fs_pairs_at) [] E0 (tCons (tVar 0) (tCons (tVar 1) tNil)))) (gName 3) (tTest (tOp (rEqD K) (tOp (rIx K) (tVar 3) (tC (.int 1))) (tVar 2))) (tVar 3) [3]))
section
variable {P : Program} {w : World} {K : PySem.W.Frag} {mg : Str → Option Value} {base : Heap}
theorem bd_pairs_towards (T : Tp K mg base) {f : Addr} : Body P w K mg base (gx K) N_pairs_towards "pairs_towards" (defScope s_pairs_towards) f 2 (defBody s_pairs_towards) m_pairs_towards := fun cdv A outer s H E hr => by
  have nd := sc_pairs_towards.nd
  refine ⟨t_pairs_towards K P w, ?_, ?_⟩
  · exact (pss_one (ps_ret (pe_lc (own := [("pair", 3)]) (g := (gName 3)) (tt := (tTest (tOp (rEqD K) (tOp (rIx K) (tVar 3) (tC (.int 1))) (tVar 2)))) (te := (tVar 3)) rfl nd (pi_list (C8.pe_c (cal_pairs_at T) hr (by decide) rfl (pa_cons (pv 0) (pa_cons (pv 1) pa_nil)))) (blkOk_by (N := N_pairs_towards) (sc := defScope s_pairs_towards) (by decide +kernel)) (fun _ _ _ _ _ => (pg_name (i := 3) nd rfl (by first | exact Or.inl rfl | exact Or.inr rfl))) (fun _ _ _ _ _ => (pts_one (pt_cmpR (op_eqD (hu4 hr)) (pe_ix ix_seq (pv 3) pe_int (fun _ _ => rfl)) (pv 2) (nomark _)))) (fun _ _ _ _ _ => (pv 3)))))
  · exact (rs_ret (ref_lc (ri_list (ref_call (es := []) (fun _ _ => rfl) (ref_cons (ref_var 0) (ref_cons (ref_var 1) ref_nil)))) (rn_name (by decide)) (ref_tst (ref_op (ref_op (ref_var 3) (ref_c fun _ _ => rfl) rr_ix) (ref_var 2) rr_eq)) (ref_var 3)))
theorem cal_pairs_towards (T : Tp K mg base) : C8.Cal P w K mg base 3 "pairs_towards" (pSp (gx K) 3 fs_pairs_towards) [] := by
  obtain ⟨fd, F⟩ := T.c.def_ 37 (d := d_pairs_towards) rfl
  exact ⟨_, fd, ps_pairs_towards, [], fn_pure F sc_pairs_towards (bd_pairs_towards T) (fun ds DQ _ h => h), T.g_pairs_towards, F.kp, F.bindsN (fun _ _ _ _ _ _ us hl => match us, hl with | [_, _, _], _ => rfl), .nil⟩
end
/-! ### towards -/
abbrev N_towards : List Str := ["web", "yard", "target", "pairs"]
abbrev ps_towards : List Str := ["web", "yard", "target"]
theorem sc_towards : FnScope N_towards ps_towards (defScope s_towards) := ⟨rfl, rfl, rfl, by decide +kernel, rfl, by decide +kernel, by decide +kernel⟩
def m_towards : DTS := (dSeq (dSet 3 (dDat (dCall fs_pairs_towards [] (dCons (dCall fs_country_of [] (dCons (dVar 0) dNil)) (dCons (dVar 1) (dCons (dVar 2) dNil)))))) (dRet (dCB sortedDN (dCons (dSlL (dCall fs_standing_by [.non] (dCons (dCall fs_book_at [] (dCons (dVar 0) (dCons (dVar 1) dNil))) (dCons (dVar 3) dNil))) (dPart (dC (.int 1))) dNoP) dNil))))
def fs_towards : DSp := fun ds Q => m_towards (pureE Q) (startD 4 ds)
def t_towards (K : PySem.W.Frag) (P : Program) (w : World) : TS := (tSeq (tAsg (tCall (pSp (gx K) 3 fs_pairs_towards) [] E0 (tCons (tCall (pSp (gx K) 1 fs_country_of) [] E0 (tCons (tVar 0) tNil)) (tCons (tVar 1) (tCons (tVar 2) tNil)))) (gName 3)) (tRet (tCB (rSortedD K) (tCons (tSl (rSlL K) (tCall (pSp (gx K) 3 fs_standing_by) [.non] E0 (tCons (tCall (pSp (gx K) 2 fs_book_at) [] E0 (tCons (tVar 0) (tCons (tVar 1) tNil))) (tCons (tVar 3) tNil))) (tPart (tC (.int 1))) tNoPart) tNil))))
section
variable {P : Program} {w : World} {K : PySem.W.Frag} {mg : Str → Option Value} {base : Heap}
theorem bd_towards (T : Tp K mg base) {f : Addr} : Body P w K mg base (gx K) N_towards "towards" (defScope s_towards) f 4 (defBody s_towards) m_towards := fun cdv A outer s H E hr => by
  have nd := sc_towards.nd
  refine ⟨t_towards K P w, ?_, ?_⟩
  · exact (pss_cons (ps_set (i := 3) nd rfl (Or.inl rfl) (C8.pe_c (cal_pairs_towards T) hr (by decide) rfl (pa_cons (C8.pe_c (cal_country_of T) hr (by decide) rfl (pa_cons (pv 0) pa_nil)) (pa_cons (pv 1) (pa_cons (pv 2) pa_nil))))) (pss_one (ps_ret (pe_callB (cr_sortedD (hu4 hr)) rfl T.f_sorted bt_sorted (pa_cons (pe_slice sl_list (C8.pe_c (cal_standing_by T) hr (by decide) rfl (pa_cons (C8.pe_c (cal_book_at T) hr (by decide) rfl (pa_cons (pv 0) (pa_cons (pv 1) pa_nil))) (pa_cons (pv 3) pa_nil))) (po_some pe_int) po_none) pa_nil)))))
  · exact (rs_seq (rs_set (ref_dat (ref_call (es := []) (fun _ _ => rfl) (ref_cons (ref_call (es := []) (fun _ _ => rfl) (ref_cons (ref_var 0) ref_nil)) (ref_cons (ref_var 1) (ref_cons (ref_var 2) ref_nil)))))) (rs_ret (ref_cb (ref_cons (ref_slL (ref_call (es := [.non]) (fun _ _ => ⟨.non, [], rfl, rfl, rfl⟩) (ref_cons (ref_call (es := []) (fun _ _ => rfl) (ref_cons (ref_var 0) (ref_cons (ref_var 1) ref_nil))) (ref_cons (ref_var 3) ref_nil))) (ref_part (ref_c fun _ _ => rfl)) ref_noP) ref_nil) rc_sortedN)))
theorem cal_towards (T : Tp K mg base) : C8.Cal P w K mg base 5 "towards" (pSp (gx K) 3 fs_towards) [] := by
  obtain ⟨fd, F⟩ := T.c.def_ 38 (d := d_towards) rfl
  exact ⟨_, fd, ps_towards, [], fn_pure F sc_towards (bd_towards T) (fun ds DQ _ h => h), T.g_towards, F.kp, F.bindsN (fun _ _ _ _ _ _ us hl => match us, hl with | [_, _, _], _ => rfl), .nil⟩
end
/-! ### heaviest_towards -/
abbrev N_heaviest_towards : List Str := ["web", "yard", "target", "pairs", "load"]
abbrev ps_heaviest_towards : List Str := ["web", "yard", "target"]
theorem sc_heaviest_towards : FnScope N_heaviest_towards ps_heaviest_towards (defScope s_heaviest_towards) := ⟨rfl, rfl, rfl, by decide +kernel, rfl, by decide +kernel, by decide +kernel⟩
def m_heaviest_towards : DTS := (dSeq (dSet 3 (dDat (dCall fs_pairs_towards [] (dCons (dCall fs_country_of [] (dCons (dVar 0) dNil)) (dCons (dVar 1) (dCons (dVar 2) dNil)))))) (dRet (dLcN (dItL (dCall fs_towards [] (dCons (dVar 0) (dCons (dVar 1) (dCons (dVar 2) dNil))))) (gNm 4) (dTst (dCall fs_are_refused [] (dCons (dCall fs_book_at [] (dCons (dVar 0) (dCons (dVar 1) dNil))) (dCons (dVar 4) (dCons (dVar 3) dNil))))) (dVar 4) [4])))
def fs_heaviest_towards : DSp := fun ds Q => m_heaviest_towards (pureE Q) (startD 5 ds)
def t_heaviest_towards (K : PySem.W.Frag) (P : Program) (w : World) : TS := (tSeq (tAsg (tCall (pSp (gx K) 3 fs_pairs_towards) [] E0 (tCons (tCall (pSp (gx K) 1 fs_country_of) [] E0 (tCons (tVar 0) tNil)) (tCons (tVar 1) (tCons (tVar 2) tNil)))) (gName 3)) (tRet (tLc (iList K (tCall (pSp (gx K) 3 fs_towards) [] E0 (tCons (tVar 0) (tCons (tVar 1) (tCons (tVar 2) tNil))))) (gName 4) (tB (tCall (pSp (gx K) 3 fs_are_refused) [] E0 (tCons (tCall (pSp (gx K) 2 fs_book_at) [] E0 (tCons (tVar 0) (tCons (tVar 1) tNil))) (tCons (tVar 4) (tCons (tVar 3) tNil))))) (tVar 4) [4])))
section
variable {P : Program} {w : World} {K : PySem.W.Frag} {mg : Str → Option Value} {base : Heap}
theorem bd_heaviest_towards (T : Tp K mg base) {f : Addr} : Body P w K mg base (gx K) N_heaviest_towards "heaviest_towards" (defScope s_heaviest_towards) f 5 (defBody s_heaviest_towards) m_heaviest_towards := fun cdv A outer s H E hr => by
  have nd := sc_heaviest_towards.nd
  refine ⟨t_heaviest_towards K P w, ?_, ?_⟩
  · exact (pss_cons (ps_set (i := 3) nd rfl (Or.inr rfl) (C8.pe_c (cal_pairs_towards T) hr (by decide) rfl (pa_cons (C8.pe_c (cal_country_of T) hr (by decide) rfl (pa_cons (pv 0) pa_nil)) (pa_cons (pv 1) (pa_cons (pv 2) pa_nil))))) (pss_one (ps_ret (pe_lc (own := [("load", 4)]) (g := (gName 4)) (tt := (tB (tCall (pSp (gx K) 3 fs_are_refused) [] E0 (tCons (tCall (pSp (gx K) 2 fs_book_at) [] E0 (tCons (tVar 0) (tCons (tVar 1) tNil))) (tCons (tVar 4) (tCons (tVar 3) tNil)))))) (te := (tVar 4)) rfl nd (pi_list (C8.pe_c (cal_towards T) hr (by decide) rfl (pa_cons (pv 0) (pa_cons (pv 1) (pa_cons (pv 2) pa_nil))))) (blkOk_by (N := N_heaviest_towards) (sc := defScope s_heaviest_towards) (by decide +kernel)) (fun _ _ _ _ _ => (pg_name (i := 4) nd rfl (by first | exact Or.inl rfl | exact Or.inr rfl))) (fun _ _ _ _ _ => (pts_one (pt_val (C8.pe_c (cal_are_refused T) hr (by decide) rfl (pa_cons (C8.pe_c (cal_book_at T) hr (by decide) rfl (pa_cons (pv 0) (pa_cons (pv 1) pa_nil))) (pa_cons (pv 4) (pa_cons (pv 3) pa_nil))))))) (fun _ _ _ _ _ => (pv 4))))))
  · exact (rs_seq (rs_set (ref_dat (ref_call (es := []) (fun _ _ => rfl) (ref_cons (ref_call (es := []) (fun _ _ => rfl) (ref_cons (ref_var 0) ref_nil)) (ref_cons (ref_var 1) (ref_cons (ref_var 2) ref_nil)))))) (rs_ret (ref_lcN (ri_list (ref_call (es := []) (fun _ _ => rfl) (ref_cons (ref_var 0) (ref_cons (ref_var 1) (ref_cons (ref_var 2) ref_nil))))) (rn_name (by decide)) (ref_tB (ref_call (es := []) (fun _ _ => rfl) (ref_cons (ref_call (es := []) (fun _ _ => rfl) (ref_cons (ref_var 0) (ref_cons (ref_var 1) ref_nil))) (ref_cons (ref_var 4) (ref_cons (ref_var 3) ref_nil))))) (ref_var 4))))
theorem cal_heaviest_towards (T : Tp K mg base) : C8.Cal P w K mg base 6 "heaviest_towards" (pSp (gx K) 3 fs_heaviest_towards) [] := by
  obtain ⟨fd, F⟩ := T.c.def_ 39 (d := d_heaviest_towards) rfl
  exact ⟨_, fd, ps_heaviest_towards, [], fn_pure F sc_heaviest_towards (bd_heaviest_towards T) (fun ds DQ _ h => h), T.g_heaviest_towards, F.kp, F.bindsN (fun _ _ _ _ _ _ us hl => match us, hl with | [_, _, _], _ => rfl), .nil⟩
end
/-! ### is_load_within -/
abbrev N_is_load_within : List Str := ["load", "other", "origin", "target", "many", "one"]
abbrev ps_is_load_within : List Str := ["load", "other"]
theorem sc_is_load_within : FnScope N_is_load_within ps_is_load_within (defScope s_is_load_within) := ⟨rfl, rfl, rfl, by decide +kernel, rfl, by decide +kernel, by decide +kernel⟩
def m_is_load_within : DTS := (dSeq (dFor (dItL (dVar 0)) (gTp (gCn (gNm 2) (gCn (gNm 3) (gCn (gNm 4) gNl)))) (dIf (dNot (dTst (dCB anyD (dCons (dLc (dItL (dVar 1)) (gNm 5) dYes (dAndV (dOp eqOp (dSlT (dVar 5) dNoP (dPart (dC (.int 2)))) (dTup (dCons (dVar 2) (dCons (dVar 3) dNil)))) (dOp cLe (dVar 4) (dOp ixOp (dVar 5) (dC (.int 2))))) [5]) dNil)))) (dRet (dC (.bl false))) dNext)) (dRet (dC (.bl true))))
def fs_is_load_within : DSp := fun ds Q => m_is_load_within (pureE Q) (startD 6 ds)
def t_is_load_within (K : PySem.W.Frag) (P : Program) (w : World) : TS := (tSeq (tFor (iList K (tVar 0)) (gTup K 3 (gCons (gName 2) (gCons (gName 3) (gCons (gName 4) gNil)))) (tIfS (tNot (tB (tCB (rAny K) (tCons (tLc (iList K (tVar 1)) (gName 5) tYes (tAndV (tOp (rEqD K) (tSl (rSlT K) (tVar 5) tNoPart (tPart (tC (.int 2)))) (tTup (tCons (tVar 2) (tCons (tVar 3) tNil)))) (tOp rLe (tVar 4) (tOp (rIx K) (tVar 5) (tC (.int 2))))) [5]) tNil)))) (tRet (tC (.bl false))) tNext)) (tRet (tC (.bl true))))
section
variable {P : Program} {w : World} {K : PySem.W.Frag} {mg : Str → Option Value} {base : Heap}
theorem bd_is_load_within (T : Tp K mg base) {f : Addr} : Body P w K mg base (gx K) N_is_load_within "is_load_within" (defScope s_is_load_within) f 0 (defBody s_is_load_within) m_is_load_within := fun cdv A outer s H E hr => by
  have nd := sc_is_load_within.nd
  refine ⟨t_is_load_within K P w, ?_, ?_⟩
  · exact (pss_cons (ps_for PassesOwn.never rfl (pi_list (pv 0)) (pg_tup rfl (pgs_cons (pg_name (i := 2) nd rfl (by first | exact Or.inl rfl | exact Or.inr rfl)) (pgs_cons (pg_name (i := 3) nd rfl (by first | exact Or.inl rfl | exact Or.inr rfl)) (pgs_cons (pg_name (i := 4) nd rfl (by first | exact Or.inl rfl | exact Or.inr rfl)) pgs_nil)))) (pss_one (ps_if (pt_not (pt_val (pe_callB (cr_any rfl) rfl T.f_any bt_any (pa_cons (pe_lc (own := [("one", 5)]) (g := (gName 5)) (tt := tYes) (te := (tAndV (tOp (rEqD K) (tSl (rSlT K) (tVar 5) tNoPart (tPart (tC (.int 2)))) (tTup (tCons (tVar 2) (tCons (tVar 3) tNil)))) (tOp rLe (tVar 4) (tOp (rIx K) (tVar 5) (tC (.int 2)))))) rfl nd (pi_list (pv 1)) (blkOk_by (N := N_is_load_within) (sc := defScope s_is_load_within) (by decide +kernel)) (fun _ _ _ _ _ => (pg_name (i := 5) nd rfl (by first | exact Or.inl rfl | exact Or.inr rfl))) (fun _ _ _ _ _ => pts_nil) (fun _ _ _ _ _ => (pe_and (pe_cmpR (op_eqD (hu4 hr)) (pe_slice sl_tup (pv 5) po_none (po_some pe_int)) (pe_tup (pa_cons (pv 2) (pa_cons (pv 3) pa_nil))) (nomark _)) (pe_one (pe_cmpR op_le (pv 4) (pe_ix ix_seq (pv 5) pe_int (fun _ _ => rfl)) (nomark _)))))) pa_nil)))) (pss_one (ps_ret pe_bl)) pss_nil))) (pss_one (ps_ret pe_bl)))
  · exact (rs_seq (rs_for (vs := [2, 3, 4]) (ri_list (ref_var 0)) (rn_tup (rn_cons1 (by decide) (rn_cons1 (by decide) (rn_cons1 (by decide) rn_nil)))) (rs_if (ref_not (ref_tB (ref_cb (ref_cons (ref_lc (ri_list (ref_var 1)) (rn_name (by decide)) rt_yes (ref_andV (ref_op (ref_slT (ref_var 5) ref_noP (ref_part (ref_c fun _ _ => rfl))) (ref_tup (ref_cons (ref_var 2) (ref_cons (ref_var 3) ref_nil))) rr_eq) (ref_op (ref_var 4) (ref_op (ref_var 5) (ref_c fun _ _ => rfl) rr_ix) rr_c))) ref_nil) rc_any))) (rs_ret (ref_c fun _ _ => rfl)) rs_next)) (rs_ret (ref_c fun _ _ => rfl)))
theorem cal_is_load_within (T : Tp K mg base) : C8.Cal P w K mg base 1 "is_load_within" (pSp (gx K) 2 fs_is_load_within) [] := by
  obtain ⟨fd, F⟩ := T.c.def_ 40 (d := d_is_load_within) rfl
  exact ⟨_, fd, ps_is_load_within, [], fn_pure F sc_is_load_within (bd_is_load_within T) (fun ds DQ _ h => h), T.g_is_load_within, F.kp, F.bindsN (fun _ _ _ _ _ _ us hl => match us, hl with | [_, _], _ => rfl), .nil⟩
end
/-! ### let_at -/
abbrev N_let_at : List Str := ["web", "yard", "load"]
abbrev ps_let_at : List Str := ["web", "yard", "load"]
theorem sc_let_at : FnScope N_let_at ps_let_at (defScope s_let_at) := ⟨rfl, rfl, rfl, by decide +kernel, rfl, by decide +kernel, by decide +kernel⟩
def m_let_at : DTS := (dRet (dCall fs_stands_by [] (dCons (dCall fs_book_at [] (dCons (dVar 0) (dCons (dVar 1) dNil))) (dCons (dVar 2) dNil))))
def fs_let_at : DSp := fun ds Q => m_let_at (pureE Q) (startD 3 ds)
def t_let_at (K : PySem.W.Frag) (P : Program) (w : World) : TS := (tRet (tCall (pSp (gx K) 2 fs_stands_by) [] E0 (tCons (tCall (pSp (gx K) 2 fs_book_at) [] E0 (tCons (tVar 0) (tCons (tVar 1) tNil))) (tCons (tVar 2) tNil))))
section
variable {P : Program} {w : World} {K : PySem.W.Frag} {mg : Str → Option Value} {base : Heap}
theorem bd_let_at (T : Tp K mg base) {f : Addr} : Body P w K mg base (gx K) N_let_at "let_at" (defScope s_let_at) f 3 (defBody s_let_at) m_let_at := fun cdv A outer s H E hr => by
  have nd := sc_let_at.nd
  refine ⟨t_let_at K P w, ?_, ?_⟩
  · exact (pss_one (ps_ret (C8.pe_c (cal_stands_by T) hr (by decide) rfl (pa_cons (C8.pe_c (cal_book_at T) hr (by decide) rfl (pa_cons (pv 0) (pa_cons (pv 1) pa_nil))) (pa_cons (pv 2) pa_nil)))))
  · exact (rs_ret (ref_call (es := []) (fun _ _ => rfl) (ref_cons (ref_call (es := []) (fun _ _ => rfl) (ref_cons (ref_var 0) (ref_cons (ref_var 1) ref_nil))) (ref_cons (ref_var 2) ref_nil))))
theorem cal_let_at (T : Tp K mg base) : C8.Cal P w K mg base 4 "let_at" (pSp (gx K) 3 fs_let_at) [] := by
  obtain ⟨fd, F⟩ := T.c.def_ 41 (d := d_let_at) rfl
  exact ⟨_, fd, ps_let_at, [], fn_pure F sc_let_at (bd_let_at T) (fun ds DQ _ h => h), T.g_let_at, F.kp, F.bindsN (fun _ _ _ _ _ _ us hl => match us, hl with | [_, _, _], _ => rfl), .nil⟩
end
/-! ### want_web_yard -/
abbrev N_want_web_yard : List Str := ["web", "yard", "here"]
abbrev ps_want_web_yard : List Str := ["web", "yard"]
theorem sc_want_web_yard : FnScope N_want_web_yard ps_want_web_yard (defScope s_want_web_yard) := ⟨rfl, rfl, rfl, by decide +kernel, rfl, by decide +kernel, by decide +kernel⟩
def m_want_web_yard : DTS := (dSeq (dSet 2 (dDat (dCall fs_want_web [] (dCons (dVar 0) dNil)))) (dSeq (dDrop (dCall fs_want_yard [] (dCons (dCall fs_country_of [] (dCons (dVar 2) dNil)) (dCons (dVar 1) dNil)))) (dRet (dVar 2))))
def fs_want_web_yard : DSp := fun ds Q => m_want_web_yard (pureE Q) (startD 3 ds)
def t_want_web_yard (K : PySem.W.Frag) (P : Program) (w : World) : TS := (tSeq (tAsg (tCall (pSp (gx K) 1 fs_want_web) [] E0 (tCons (tVar 0) tNil)) (gName 2)) (tSeq (tDrop (tCall (pSp (gx K) 2 fs_want_yard) [] E0 (tCons (tCall (pSp (gx K) 1 fs_country_of) [] E0 (tCons (tVar 2) tNil)) (tCons (tVar 1) tNil)))) (tRet (tVar 2))))
section
variable {P : Program} {w : World} {K : PySem.W.Frag} {mg : Str → Option Value} {base : Heap}
theorem bd_want_web_yard (T : Tp K mg base) {f : Addr} : Body P w K mg base (gx K) N_want_web_yard "want_web_yard" (defScope s_want_web_yard) f 5 (defBody s_want_web_yard) m_want_web_yard := fun cdv A outer s H E hr => by
  have nd := sc_want_web_yard.nd
  refine ⟨t_want_web_yard K P w, ?_, ?_⟩
  · exact (pss_cons (ps_set (i := 2) nd rfl (Or.inl rfl) (C8.pe_c (cal_want_web T) hr (by decide) rfl (pa_cons (pv 0) pa_nil))) (pss_cons (ps_expr (C8.pe_c (cal_want_yard T) hr (by decide) rfl (pa_cons (C8.pe_c (cal_country_of T) hr (by decide) rfl (pa_cons (pv 2) pa_nil)) (pa_cons (pv 1) pa_nil)))) (pss_one (ps_ret (pv 2)))))
  · exact (rs_seq (rs_set (ref_dat (ref_call (es := []) (fun _ _ => rfl) (ref_cons (ref_var 0) ref_nil)))) (rs_seq (rs_drop (ref_call (es := []) (fun _ _ => rfl) (ref_cons (ref_call (es := []) (fun _ _ => rfl) (ref_cons (ref_var 2) ref_nil)) (ref_cons (ref_var 1) ref_nil)))) (rs_ret (ref_var 2))))
theorem cal_want_web_yard (T : Tp K mg base) : C8.Cal P w K mg base 6 "want_web_yard" (pSp (gx K) 2 fs_want_web_yard) [] := by
  obtain ⟨fd, F⟩ := T.c.def_ 42 (d := d_want_web_yard) rfl
  exact ⟨_, fd, ps_want_web_yard, [], fn_pure F sc_want_web_yard (bd_want_web_yard T) (fun ds DQ _ h => h), T.g_want_web_yard, F.kp, F.bindsN (fun _ _ _ _ _ _ us hl => match us, hl with | [_, _], _ => rfl), .nil⟩
end
/-! ### is_at_most -/
abbrev N_is_at_most : List Str := ["country", "yard", "load", "other", "here", "told"]
abbrev ps_is_at_most : List Str := ["country", "yard", "load", "other"]
theorem sc_is_at_most : FnScope N_is_at_most ps_is_at_most (defScope s_is_at_most) := ⟨rfl, rfl, rfl, by decide +kernel, rfl, by decide +kernel, by decide +kernel⟩
def m_is_at_most : DTS := (dSeq (dSet 4 (dDat (dCall fs_want_yard_of [] (dCons (dVar 0) (dCons (dVar 1) dNil))))) (dSeq (dSet 5 (dDat (dCall fs_want_load [] (dCons (dVar 4) (dCons (dVar 1) (dCons (dVar 2) dNil)))))) (dRet (dCall fs_is_load_within [] (dCons (dVar 5) (dCons (dCall fs_want_load [] (dCons (dVar 4) (dCons (dVar 1) (dCons (dVar 3) dNil)))) dNil))))))
def fs_is_at_most : DSp := fun ds Q => m_is_at_most (pureE Q) (startD 6 ds)
def t_is_at_most (K : PySem.W.Frag) (P : Program) (w : World) : TS := (tSeq (tAsg (tCall (pSp (gx K) 2 fs_want_yard_of) [] E0 (tCons (tVar 0) (tCons (tVar 1) tNil))) (gName 4)) (tSeq (tAsg (tCall (pSp (gx K) 3 fs_want_load) [] E0 (tCons (tVar 4) (tCons (tVar 1) (tCons (tVar 2) tNil)))) (gName 5)) (tRet (tCall (pSp (gx K) 2 fs_is_load_within) [] E0 (tCons (tVar 5) (tCons (tCall (pSp (gx K) 3 fs_want_load) [] E0 (tCons (tVar 4) (tCons (tVar 1) (tCons (tVar 3) tNil)))) tNil))))))
section
variable {P : Program} {w : World} {K : PySem.W.Frag} {mg : Str → Option Value} {base : Heap}
theorem bd_is_at_most (T : Tp K mg base) {f : Addr} : Body P w K mg base (gx K) N_is_at_most "is_at_most" (defScope s_is_at_most) f 6 (defBody s_is_at_most) m_is_at_most := fun cdv A outer s H E hr => by
  have nd := sc_is_at_most.nd
  refine ⟨t_is_at_most K P w, ?_, ?_⟩
  · exact (pss_cons (ps_set (i := 4) nd rfl (Or.inl rfl) (C8.pe_c (cal_want_yard_of T) hr (by decide) rfl (pa_cons (pv 0) (pa_cons (pv 1) pa_nil)))) (pss_cons (ps_set (i := 5) nd rfl (Or.inl rfl) (C8.pe_c (cal_want_load T) hr (by decide) rfl (pa_cons (pv 4) (pa_cons (pv 1) (pa_cons (pv 2) pa_nil))))) (pss_one (ps_ret (C8.pe_c (cal_is_load_within T) hr (by decide) rfl (pa_cons (pv 5) (pa_cons (C8.pe_c (cal_want_load T) hr (by decide) rfl (pa_cons (pv 4) (pa_cons (pv 1) (pa_cons (pv 3) pa_nil)))) pa_nil)))))))
  · exact (rs_seq (rs_set (ref_dat (ref_call (es := []) (fun _ _ => rfl) (ref_cons (ref_var 0) (ref_cons (ref_var 1) ref_nil))))) (rs_seq (rs_set (ref_dat (ref_call (es := []) (fun _ _ => rfl) (ref_cons (ref_var 4) (ref_cons (ref_var 1) (ref_cons (ref_var 2) ref_nil)))))) (rs_ret (ref_call (es := []) (fun _ _ => rfl) (ref_cons (ref_var 5) (ref_cons (ref_call (es := []) (fun _ _ => rfl) (ref_cons (ref_var 4) (ref_cons (ref_var 1) (ref_cons (ref_var 3) ref_nil)))) ref_nil))))))
theorem cal_is_at_most (T : Tp K mg base) : C8.Cal P w K mg base 7 "is_at_most" (pSp (gx K) 4 fs_is_at_most) [] := by
  obtain ⟨fd, F⟩ := T.c.def_ 43 (d := d_is_at_most) rfl
  exact ⟨_, fd, ps_is_at_most, [], fn_pure F sc_is_at_most (bd_is_at_most T) (fun ds DQ _ h => h), T.g_is_at_most, F.kp, F.bindsN (fun _ _ _ _ _ _ us hl => match us, hl with | [_, _, _, _], _ => rfl), .nil⟩
end
/-! ### lets -/
abbrev N_lets : List Str := ["web", "yard", "load", "here"]
abbrev ps_lets : List Str := ["web", "yard", "load"]
theorem sc_lets : FnScope N_lets ps_lets (defScope s_lets) := ⟨rfl, rfl, rfl, by decide +kernel, rfl, by decide +kernel, by decide +kernel⟩
def m_lets : DTS := (dSeq (dSet 3 (dDat (dCall fs_want_web_yard [] (dCons (dVar 0) (dCons (dVar 1) dNil))))) (dRet (dCall fs_let_at [] (dCons (dVar 3) (dCons (dVar 1) (dCons (dCall fs_want_load [] (dCons (dCall fs_country_of [] (dCons (dVar 3) dNil)) (dCons (dVar 1) (dCons (dVar 2) dNil)))) dNil))))))
def fs_lets : DSp := fun ds Q => m_lets (pureE Q) (startD 4 ds)
def t_lets (K : PySem.W.Frag) (P : Program) (w : World) : TS := (tSeq (tAsg (tCall (pSp (gx K) 2 fs_want_web_yard) [] E0 (tCons (tVar 0) (tCons (tVar 1) tNil))) (gName 3)) (tRet (tCall (pSp (gx K) 3 fs_let_at) [] E0 (tCons (tVar 3) (tCons (tVar 1) (tCons (tCall (pSp (gx K) 3 fs_want_load) [] E0 (tCons (tCall (pSp (gx K) 1 fs_country_of) [] E0 (tCons (tVar 3) tNil)) (tCons (tVar 1) (tCons (tVar 2) tNil)))) tNil))))))
section
variable {P : Program} {w : World} {K : PySem.W.Frag} {mg : Str → Option Value} {base : Heap}
theorem bd_lets (T : Tp K mg base) {f : Addr} : Body P w K mg base (gx K) N_lets "lets" (defScope s_lets) f 6 (defBody s_lets) m_lets := fun cdv A outer s H E hr => by
  have nd := sc_lets.nd
  refine ⟨t_lets K P w, ?_, ?_⟩
  · exact (pss_cons (ps_set (i := 3) nd rfl (Or.inl rfl) (C8.pe_c (cal_want_web_yard T) hr (by decide) rfl (pa_cons (pv 0) (pa_cons (pv 1) pa_nil)))) (pss_one (ps_ret (C8.pe_c (cal_let_at T) hr (by decide) rfl (pa_cons (pv 3) (pa_cons (pv 1) (pa_cons (C8.pe_c (cal_want_load T) hr (by decide) rfl (pa_cons (C8.pe_c (cal_country_of T) hr (by decide) rfl (pa_cons (pv 3) pa_nil)) (pa_cons (pv 1) (pa_cons (pv 2) pa_nil)))) pa_nil)))))))
  · exact (rs_seq (rs_set (ref_dat (ref_call (es := []) (fun _ _ => rfl) (ref_cons (ref_var 0) (ref_cons (ref_var 1) ref_nil))))) (rs_ret (ref_call (es := []) (fun _ _ => rfl) (ref_cons (ref_var 3) (ref_cons (ref_var 1) (ref_cons (ref_call (es := []) (fun _ _ => rfl) (ref_cons (ref_call (es := []) (fun _ _ => rfl) (ref_cons (ref_var 3) ref_nil)) (ref_cons (ref_var 1) (ref_cons (ref_var 2) ref_nil)))) ref_nil))))))
theorem cal_lets (T : Tp K mg base) : C8.Cal P w K mg base 7 "lets" (pSp (gx K) 3 fs_lets) [] := by
  obtain ⟨fd, F⟩ := T.c.def_ 44 (d := d_lets) rfl
  exact ⟨_, fd, ps_lets, [], fn_pure F sc_lets (bd_lets T) (fun ds DQ _ h => h), T.g_lets, F.kp, F.bindsN (fun _ _ _ _ _ _ us hl => match us, hl with | [_, _, _], _ => rfl), .nil⟩
end
/-! ### loads_towards -/
abbrev N_loads_towards : List Str := ["web", "yard", "target", "here"]
abbrev ps_loads_towards : List Str := ["web", "yard", "target"]
theorem sc_loads_towards : FnScope N_loads_towards ps_loads_towards (defScope s_loads_towards) := ⟨rfl, rfl, rfl, by decide +kernel, rfl, by decide +kernel, by decide +kernel⟩
def m_loads_towards : DTS := (dSeq (dSet 3 (dDat (dCall fs_want_web_yard [] (dCons (dVar 0) (dCons (dVar 1) dNil))))) (dSeq (dDrop (dCall fs_want_neighbour [] (dCons (dCall fs_country_of [] (dCons (dVar 3) dNil)) (dCons (dVar 1) (dCons (dVar 2) dNil))))) (dRet (dCall fs_towards [] (dCons (dVar 3) (dCons (dVar 1) (dCons (dVar 2) dNil)))))))
def fs_loads_towards : DSp := fun ds Q => m_loads_towards (pureE Q) (startD 4 ds)
def t_loads_towards (K : PySem.W.Frag) (P : Program) (w : World) : TS := (tSeq (tAsg (tCall (pSp (gx K) 2 fs_want_web_yard) [] E0 (tCons (tVar 0) (tCons (tVar 1) tNil))) (gName 3)) (tSeq (tDrop (tCall (pSp (gx K) 3 fs_want_neighbour) [] E0 (tCons (tCall (pSp (gx K) 1 fs_country_of) [] E0 (tCons (tVar 3) tNil)) (tCons (tVar 1) (tCons (tVar 2) tNil))))) (tRet (tCall (pSp (gx K) 3 fs_towards) [] E0 (tCons (tVar 3) (tCons (tVar 1) (tCons (tVar 2) tNil)))))))
section
variable {P : Program} {w : World} {K : PySem.W.Frag} {mg : Str → Option Value} {base : Heap}
theorem bd_loads_towards (T : Tp K mg base) {f : Addr} : Body P w K mg base (gx K) N_loads_towards "loads_towards" (defScope s_loads_towards) f 6 (defBody s_loads_towards) m_loads_towards := fun cdv A outer s H E hr => by
  have nd := sc_loads_towards.nd
  refine ⟨t_loads_towards K P w, ?_, ?_⟩
  · exact (pss_cons (ps_set (i := 3) nd rfl (Or.inl rfl) (C8.pe_c (cal_want_web_yard T) hr (by decide) rfl (pa_cons (pv 0) (pa_cons (pv 1) pa_nil)))) (pss_cons (ps_expr (C8.pe_c (cal_want_neighbour T) hr (by decide) rfl (pa_cons (C8.pe_c (cal_country_of T) hr (by decide) rfl (pa_cons (pv 3) pa_nil)) (pa_cons (pv 1) (pa_cons (pv 2) pa_nil))))) (pss_one (ps_ret (C8.pe_c (cal_towards T) hr (by decide) rfl (pa_cons (pv 3) (pa_cons (pv 1) (pa_cons (pv 2) pa_nil))))))))
  · exact (rs_seq (rs_set (ref_dat (ref_call (es := []) (fun _ _ => rfl) (ref_cons (ref_var 0) (ref_cons (ref_var 1) ref_nil))))) (rs_seq (rs_drop (ref_call (es := []) (fun _ _ => rfl) (ref_cons (ref_call (es := []) (fun _ _ => rfl) (ref_cons (ref_var 3) ref_nil)) (ref_cons (ref_var 1) (ref_cons (ref_var 2) ref_nil))))) (rs_ret (ref_call (es := []) (fun _ _ => rfl) (ref_cons (ref_var 3) (ref_cons (ref_var 1) (ref_cons (ref_var 2) ref_nil)))))))
theorem cal_loads_towards (T : Tp K mg base) : C8.Cal P w K mg base 7 "loads_towards" (pSp (gx K) 3 fs_loads_towards) [] := by
  obtain ⟨fd, F⟩ := T.c.def_ 45 (d := d_loads_towards) rfl
  exact ⟨_, fd, ps_loads_towards, [], fn_pure F sc_loads_towards (bd_loads_towards T) (fun ds DQ _ h => h), T.g_loads_towards, F.kp, F.bindsN (fun _ _ _ _ _ _ us hl => match us, hl with | [_, _, _], _ => rfl), .nil⟩
theorem kal_loads_towards (T : Tp K mg base) : Kal P w K mg base 7 "loads_towards" "target" "yard" "web" (pSp (gx K) 3 fs_loads_towards) := by
  obtain ⟨fd, F⟩ := T.c.def_ 45 (d := d_loads_towards) rfl
  have b : ∀ (st : Shared) (a b c : Value), BindsTo st fd ⟨[], [("target", a), ("yard", b), ("web", c)]⟩ (ps_loads_towards.zip [c, b, a]) := by
    obtain ⟨oc, od, dV, kV, doc, pm, an, cdv, ct, osl, efd, lk, hcd, hD, _⟩ := F.ex
    subst efd
    rcases hD with ⟨_, e⟩ | ⟨e, _⟩
    · subst e
      exact fun st a b c => .of_eq rfl
    · exact absurd rfl e
  exact ⟨_, fd, ps_loads_towards, fn_pure F sc_loads_towards (bd_loads_towards T) (fun ds DQ _ h => h), T.g_loads_towards, F.kp, b⟩
end
/-! ### heaviest -/
abbrev N_heaviest : List Str := ["web", "yard", "target", "here"]
abbrev ps_heaviest : List Str := ["web", "yard", "target"]
theorem sc_heaviest : FnScope N_heaviest ps_heaviest (defScope s_heaviest) := ⟨rfl, rfl, rfl, by decide +kernel, rfl, by decide +kernel, by decide +kernel⟩
def m_heaviest : DTS := (dSeq (dSet 3 (dDat (dCall fs_want_web_yard [] (dCons (dVar 0) (dCons (dVar 1) dNil))))) (dSeq (dDrop (dCall fs_want_neighbour [] (dCons (dCall fs_country_of [] (dCons (dVar 3) dNil)) (dCons (dVar 1) (dCons (dVar 2) dNil))))) (dRet (dCall fs_heaviest_towards [] (dCons (dVar 3) (dCons (dVar 1) (dCons (dVar 2) dNil)))))))
def fs_heaviest : DSp := fun ds Q => m_heaviest (pureE Q) (startD 4 ds)
def t_heaviest (K : PySem.W.Frag) (P : Program) (w : World) : TS := (tSeq (tAsg (tCall (pSp (gx K) 2 fs_want_web_yard) [] E0 (tCons (tVar 0) (tCons (tVar 1) tNil))) (gName 3)) (tSeq (tDrop (tCall (pSp (gx K) 3 fs_want_neighbour) [] E0 (tCons (tCall (pSp (gx K) 1 fs_country_of) [] E0 (tCons (tVar 3) tNil)) (tCons (tVar 1) (tCons (tVar 2) tNil))))) (tRet (tCall (pSp (gx K) 3 fs_heaviest_towards) [] E0 (tCons (tVar 3) (tCons (tVar 1) (tCons (tVar 2) tNil)))))))
section
variable {P : Program} {w : World} {K : PySem.W.Frag} {mg : Str → Option Value} {base : Heap}
theorem bd_heaviest (T : Tp K mg base) {f : Addr} : Body P w K mg base (gx K) N_heaviest "heaviest" (defScope s_heaviest) f 6 (defBody s_heaviest) m_heaviest := fun cdv A outer s H E hr => by
  have nd := sc_heaviest.nd
  refine ⟨t_heaviest K P w, ?_, ?_⟩
  · exact (pss_cons (ps_set (i := 3) nd rfl (Or.inl rfl) (C8.pe_c (cal_want_web_yard T) hr (by decide) rfl (pa_cons (pv 0) (pa_cons (pv 1) pa_nil)))) (pss_cons (ps_expr (C8.pe_c (cal_want_neighbour T) hr (by decide) rfl (pa_cons (C8.pe_c (cal_country_of T) hr (by decide) rfl (pa_cons (pv 3) pa_nil)) (pa_cons (pv 1) (pa_cons (pv 2) pa_nil))))) (pss_one (ps_ret (C8.pe_c (cal_heaviest_towards T) hr (by decide) rfl (pa_cons (pv 3) (pa_cons (pv 1) (pa_cons (pv 2) pa_nil))))))))
  · exact (rs_seq (rs_set (ref_dat (ref_call (es := []) (fun _ _ => rfl) (ref_cons (ref_var 0) (ref_cons (ref_var 1) ref_nil))))) (rs_seq (rs_drop (ref_call (es := []) (fun _ _ => rfl) (ref_cons (ref_call (es := []) (fun _ _ => rfl) (ref_cons (ref_var 3) ref_nil)) (ref_cons (ref_var 1) (ref_cons (ref_var 2) ref_nil))))) (rs_ret (ref_call (es := []) (fun _ _ => rfl) (ref_cons (ref_var 3) (ref_cons (ref_var 1) (ref_cons (ref_var 2) ref_nil)))))))
theorem cal_heaviest (T : Tp K mg base) : C8.Cal P w K mg base 7 "heaviest" (pSp (gx K) 3 fs_heaviest) [] := by
  obtain ⟨fd, F⟩ := T.c.def_ 46 (d := d_heaviest) rfl
  exact ⟨_, fd, ps_heaviest, [], fn_pure F sc_heaviest (bd_heaviest T) (fun ds DQ _ h => h), T.g_heaviest, F.kp, F.bindsN (fun _ _ _ _ _ _ us hl => match us, hl with | [_, _, _], _ => rfl), .nil⟩
theorem kal_heaviest (T : Tp K mg base) : Kal P w K mg base 7 "heaviest" "target" "yard" "web" (pSp (gx K) 3 fs_heaviest) := by
  obtain ⟨fd, F⟩ := T.c.def_ 46 (d := d_heaviest) rfl
  have b : ∀ (st : Shared) (a b c : Value), BindsTo st fd ⟨[], [("target", a), ("yard", b), ("web", c)]⟩ (ps_heaviest.zip [c, b, a]) := by
    obtain ⟨oc, od, dV, kV, doc, pm, an, cdv, ct, osl, efd, lk, hcd, hD, _⟩ := F.ex
    subst efd
    rcases hD with ⟨_, e⟩ | ⟨e, _⟩
    · subst e
      exact fun st a b c => .of_eq rfl
    · exact absurd rfl e
  exact ⟨_, fd, ps_heaviest, fn_pure F sc_heaviest (bd_heaviest T) (fun ds DQ _ h => h), T.g_heaviest, F.kp, b⟩
end
end K26
set_option Elab.async false
set_option linter.all false
set_option maxRecDepth 100000
set_option maxHeartbeats 1000000
namespace K26
open PySem PySem.Spec PyProof.Rows L2

/-! ### _law_pot -/
abbrev N_law_pot : List Str := ["_law_script", "_law_k", "_law_cell"]
abbrev ps_law_pot : List Str := ["_law_script", "_law_k"]
theorem sc_law_pot : FnScope N_law_pot ps_law_pot (defScope s_law_pot) := ⟨rfl, rfl, rfl, by decide +kernel, rfl, by decide +kernel, by decide +kernel⟩
def m_law_pot : DTS := (dSeq (dSet 2 (dDat (dIfE (dTst (dOp cLt (dVar 1) (dCB lenD (dCons (dVar 0) dNil)))) (dCB absD (dCons (dOp ixOp (dVar 0) (dVar 1)) dNil)) (dOp iAdd (dOp iMul (dC (.int 191)) (dVar 1)) (dC (.int 261)))))) (dRet (dLst (dCons (dCB max2D (dCons (dC (.int 0)) (dCons (dOp iSub (dVar 2) (dOp iPw (dC (.int 10)) (dC (.int 18)))) dNil))) (dCons (dOp iAdd (dOp iMod (dCB intD (dCons (dOp iAdd (dOp iAdd (dOp iMul (dOp iMod (dCB intD (dCons (dVar 2) dNil)) (dC (.int 2147483549))) (dC (.int 48271))) (dOp iMul (dC (.int 5681)) (dVar 1))) (dC (.int 291))) dNil)) (dC (.int 2147483579))) (dC (.int 1))) dNil)))))
def fs_law_pot : DSp := fun ds Q => m_law_pot (pureE Q) (startD 3 ds)
def t_law_pot (K : PySem.W.Frag) (P : Program) (w : World) : TS := (tSeq (tAsg (tIf (tTest (tOp rLt (tVar 1) (tCB (rLen2 K) (tCons (tVar 0) tNil)))) (tCB rAbs1 (tCons (tOp (rIx K) (tVar 0) (tVar 1)) tNil)) (tOp rAdd (tOp rMul (tC (.int 191)) (tVar 1)) (tC (.int 261)))) (gName 2)) (tRet (tLst (tCons (tCB rMax2 (tCons (tC (.int 0)) (tCons (tOp rSub (tVar 2) (tOp rPw (tC (.int 10)) (tC (.int 18)))) tNil))) (tCons (tOp rAdd (tOp rMod (tCB rInt1 (tCons (tOp rAdd (tOp rAdd (tOp rMul (tOp rMod (tCB rInt1 (tCons (tVar 2) tNil)) (tC (.int 2147483549))) (tC (.int 48271))) (tOp rMul (tC (.int 5681)) (tVar 1))) (tC (.int 291))) tNil)) (tC (.int 2147483579))) (tC (.int 1))) tNil)))))
section
variable {P : Program} {w : World} {K : PySem.W.Frag} {mg : Str → Option Value} {base : Heap}
theorem pw_law_pot (T : Tp K mg base) {f : Addr} (cdv : Value) (A : Around) (outer : List Env) (s : Shared) (H : Hp) (E : XK) (hr : Room 0 (A.deeper (envOfC "_law_pot" (defScope s_law_pot) s.heap.objs.size f cdv))) : PSs (cxOf CX0 P w K mg base N_law_pot "_law_pot" (defScope s_law_pot) f cdv A outer s H E).nox (defBody s_law_pot) (t_law_pot K P w) := by
  have nd := sc_law_pot.nd
  exact (pss_cons (ps_set (i := 2) nd rfl (Or.inl rfl) (pe_ifExp (pt_cmpR op_lt (pv 1) (pe_callB cl_len rfl T.f_len bt_len (pa_cons (pv 0) pa_nil)) (nomark _)) (pe_callB cl_abs rfl T.f_abs bt_abs (pa_cons (pe_ix ix_seq (pv 0) (pv 1) (fun _ _ => rfl)) pa_nil)) (pe_op op_add (pe_op op_mul pe_int (pv 1)) pe_int))) (pss_one (ps_ret (pe_lst (pa_cons (pe_callB (cl_max rfl) rfl T.f_max bt_max (pa_cons pe_int (pa_cons (pe_op op_sub (pv 2) (pe_op op_pow pe_int pe_int)) pa_nil))) (pa_cons (pe_op op_add (pe_op op_mod (pe_callTy cl_int rfl T.f_int bt_int (pa_cons (pe_op op_add (pe_op op_add (pe_op op_mul (pe_op op_mod (pe_callTy cl_int rfl T.f_int bt_int (pa_cons (pv 2) pa_nil)) pe_int) pe_int) (pe_op op_mul pe_int (pv 1))) pe_int) pa_nil)) pe_int) pe_int) pa_nil))))))
end
/-! ### _law_draw -/
abbrev N_law_draw : List Str := ["_law_pot_here", "_law_many_here", "_law_digit"]
abbrev ps_law_draw : List Str := ["_law_pot_here", "_law_many_here"]
theorem sc_law_draw : FnScope N_law_draw ps_law_draw (defScope s_law_draw) := ⟨rfl, rfl, rfl, by decide +kernel, rfl, by decide +kernel, by decide +kernel⟩
def m_law_draw : DTS := (dSeq (dIf (dTst (dOp cGt (dPotGet 0 false) (dC (.int 0)))) (dSeq (dAsg (dCB divD (dCons (dPotGet 0 false) (dCons (dVar 1) dNil))) (gTp (gCn (gPot 0 false) (gCn (gNm 2) gNl)))) (dRet (dVar 2))) dNext) (dSeq (dAsg (dOp iMod (dCB intD (dCons (dOp iAdd (dOp iMul (dPotGet 0 true) (dC (.int 39373))) (dC (.int 891))) dNil)) (dC (.int 2147483629))) (gPot 0 true)) (dRet (dOp iMod (dCB intD (dCons (dOp iFd (dOp iMod (dCB intD (dCons (dOp iMul (dPotGet 0 true) (dPotGet 0 true)) dNil)) (dC (.int 2147483587))) (dC (.int 13))) dNil)) (dVar 1)))))
def fs_law_draw : DSp := fun ds Q => ∀ p i j, PotOk i j → m_law_draw (potE p Q) (startP p (potN true i j) 3 ds)
def t_law_draw (K : PySem.W.Frag) (P : Program) (w : World) : TS := (tSeq (tIfS (tTest (tOp rGt (tOp (rIx K) (tVar 0) (tC (.int 0))) (tC (.int 0)))) (tSeq (tAsg (tCB rDiv2 (tCons (tOp (rIx K) (tVar 0) (tC (.int 0))) (tCons (tVar 1) tNil))) (gTup K 2 (gCons (gSub (tVar 0) (tC (.int 0)) rSetL) (gCons (gName 2) gNil)))) (tRet (tVar 2))) tNext) (tSeq (tAsg (tOp rMod (tCB rInt1 (tCons (tOp rAdd (tOp rMul (tOp (rIx K) (tVar 0) (tC (.int 1))) (tC (.int 39373))) (tC (.int 891))) tNil)) (tC (.int 2147483629))) (gSub (tVar 0) (tC (.int 1)) rSetL)) (tRet (tOp rMod (tCB rInt1 (tCons (tOp rFd (tOp rMod (tCB rInt1 (tCons (tOp rMul (tOp (rIx K) (tVar 0) (tC (.int 1))) (tOp (rIx K) (tVar 0) (tC (.int 1)))) tNil)) (tC (.int 2147483587))) (tC (.int 13))) tNil)) (tVar 1)))))
section
variable {P : Program} {w : World} {K : PySem.W.Frag} {mg : Str → Option Value} {base : Heap}
theorem bd_law_draw (T : Tp K mg base) {f : Addr} : Body P w K mg base (gx K) N_law_draw "_law_draw" (defScope s_law_draw) f 0 (defBody s_law_draw) m_law_draw := fun cdv A outer s H E hr => by
  have nd := sc_law_draw.nd
  refine ⟨t_law_draw K P w, ?_, ?_⟩
  · exact (pss_cons (ps_if (pt_cmpR op_gt (pe_ix ix_seq (pv 0) pe_int (fun _ _ => rfl)) pe_int (nomark _)) (pss_cons (ps_asg (pe_callB cl_divmod rfl T.f_divmod bt_divmod (pa_cons (pe_ix ix_seq (pv 0) pe_int (fun _ _ => rfl)) (pa_cons (pv 1) pa_nil))) (pg_tup rfl (pgs_cons (pg_sub (pv 0) pe_int set_list) (pgs_cons (pg_name (i := 2) nd rfl (Or.inl rfl)) pgs_nil)))) (pss_one (ps_ret (pv 2)))) pss_nil) (pss_cons (ps_asg (pe_op op_mod (pe_callTy cl_int rfl T.f_int bt_int (pa_cons (pe_op op_add (pe_op op_mul (pe_ix ix_seq (pv 0) pe_int (fun _ _ => rfl)) pe_int) pe_int) pa_nil)) pe_int) (pg_sub (pv 0) pe_int set_list)) (pss_one (ps_ret (pe_op op_mod (pe_callTy cl_int rfl T.f_int bt_int (pa_cons (pe_op op_fdiv (pe_op op_mod (pe_callTy cl_int rfl T.f_int bt_int (pa_cons (pe_op op_mul (pe_ix ix_seq (pv 0) pe_int (fun _ _ => rfl)) (pe_ix ix_seq (pv 0) pe_int (fun _ _ => rfl))) pa_nil)) pe_int) pe_int) pa_nil)) (pv 1))))))
  · exact (rs_seq (rs_if (ref_tst (ref_op ref_potGet0 (ref_c fun _ _ => rfl) rr_c)) (rs_seq (rs_asg (ref_cb (ref_cons ref_potGet0 (ref_cons (ref_var 1) ref_nil)) rc_div) (rg_tup (rg_cons rg_pot0 (rg_cons (rg_n (rn_name (vs := [2]) (by decide))) rg_nil gNm_ex) gPot_ex))) (rs_ret (ref_var 2))) rs_next) (rs_seq (rs_asg (ref_op (ref_cb (ref_cons (ref_op (ref_op ref_potGet1 (ref_c fun _ _ => rfl) rr_i) (ref_c fun _ _ => rfl) rr_i0) ref_nil) rc_int) (ref_c fun _ _ => rfl) rr_i) rg_pot1) (rs_ret (ref_op (ref_cb (ref_cons (ref_op (ref_op (ref_cb (ref_cons (ref_op ref_potGet1 ref_potGet1 rr_i) ref_nil) rc_int) (ref_c fun _ _ => rfl) rr_i) (ref_c fun _ _ => rfl) rr_i) ref_nil) rc_int) (ref_var 1) rr_i))))
theorem cal_law_draw (T : Tp K mg base) : C8.Cal P w K mg base 1 "_law_draw" (qSp (gx K) 1 fs_law_draw) [] := by
  obtain ⟨fd, F⟩ := T.c.def_ 48 (d := d_law_draw) rfl
  exact ⟨_, fd, ps_law_draw, [], fn_pot (c := true) F sc_law_draw (bd_law_draw T) rfl (fun p i j ds DQ po _ h => h p i j po), T.g_law_draw, F.kp, F.bindsN (fun _ _ _ _ _ _ us hl => match us, hl with | [_, _], _ => rfl), .nil⟩
end
/-! ### _law_pick -/
abbrev N_law_pick : List Str := ["_law_pot_here", "_law_some"]
abbrev ps_law_pick : List Str := ["_law_pot_here", "_law_some"]
theorem sc_law_pick : FnScope N_law_pick ps_law_pick (defScope s_law_pick) := ⟨rfl, rfl, rfl, by decide +kernel, rfl, by decide +kernel, by decide +kernel⟩
def m_law_pick : DTS := (dRet (dOp ixOp (dVar 1) (dCallP 0 fs_law_draw (dCons (dCB lenD (dCons (dVar 1) dNil)) dNil))))
def fs_law_pick : DSp := fun ds Q => ∀ p i j, PotOk i j → m_law_pick (potE p Q) (startP p (potN false i j) 2 ds)
def t_law_pick (K : PySem.W.Frag) (P : Program) (w : World) : TS := (tRet (tOp (rIx K) (tVar 1) (tCall (qSp (gx K) 1 fs_law_draw) [] E0 (tCons (tVar 0) (tCons (tCB (rLen2 K) (tCons (tVar 1) tNil)) tNil)))))
section
variable {P : Program} {w : World} {K : PySem.W.Frag} {mg : Str → Option Value} {base : Heap}
theorem bd_law_pick (T : Tp K mg base) {f : Addr} : Body P w K mg base (gx K) N_law_pick "_law_pick" (defScope s_law_pick) f 1 (defBody s_law_pick) m_law_pick := fun cdv A outer s H E hr => by
  have nd := sc_law_pick.nd
  refine ⟨t_law_pick K P w, ?_, ?_⟩
  · exact (pss_one (ps_ret (pe_ix ix_seq (pv 1) (C8.pe_c (cal_law_draw T) hr (by decide) rfl (pa_cons (pv 0) (pa_cons (pe_callB cl_len rfl T.f_len bt_len (pa_cons (pv 1) pa_nil)) pa_nil))) (fun _ _ => rfl))))
  · exact (rs_ret (ref_op (ref_var 1) (ref_callP (ref_cons (ref_cb (ref_cons (ref_var 1) ref_nil) rc_len) ref_nil)) rr_ix))
theorem cal_law_pick (T : Tp K mg base) : C8.Cal P w K mg base 2 "_law_pick" (qSp (gx K) 1 fs_law_pick) [] := by
  obtain ⟨fd, F⟩ := T.c.def_ 49 (d := d_law_pick) rfl
  exact ⟨_, fd, ps_law_pick, [], fn_pot (c := false) F sc_law_pick (bd_law_pick T) rfl (fun p i j ds DQ po _ h => h p i j po), T.g_law_pick, F.kp, F.bindsN (fun _ _ _ _ _ _ us hl => match us, hl with | [_, _], _ => rfl), .nil⟩
end
/-! ### _law_mixed -/
abbrev N_law_mixed : List Str := ["_law_pot_here", "_law_some", "_law_left", "_law_found", "_law_turn"]
abbrev ps_law_mixed : List Str := ["_law_pot_here", "_law_some"]
theorem sc_law_mixed : FnScope N_law_mixed ps_law_mixed (defScope s_law_mixed) := ⟨rfl, rfl, rfl, by decide +kernel, rfl, by decide +kernel, by decide +kernel⟩
def m_law_mixed : DTS := (dSeq (dPar 2 3 (dOwnC (dVar 1)) (dOwnL dNil)) (dSeq (dFor (dRg1 (dCons (dCB lenD (dCons (dVar 1) dNil)) dNil)) (gNm 4) (dAppend 3 (dPopAt 2 (dCallP 0 fs_law_draw (dCons (dLenO 2) dNil))))) (dRet (dVar 3))))
def fs_law_mixed : DSp := fun ds Q => ∀ p i j, PotOk i j → m_law_mixed (potE p Q) (startP p (potN false i j) 5 ds)
def t_law_mixed (K : PySem.W.Frag) (P : Program) (w : World) : TS := (tSeq (tPar 2 3 (tCons (tCB (rListOf K) (tCons (tVar 1) tNil)) (tCons (tLst tNil) tNil))) (tSeq (tFor (iRng1 (tCons (tCB (rLen2 K) (tCons (tVar 1) tNil)) tNil)) (gName 4) (tDrop (tBM K "list" rAppend (tVar 3) (tCons (tBM K "list" rPopAt (tVar 2) (tCons (tCall (qSp (gx K) 1 fs_law_draw) [] E0 (tCons (tVar 0) (tCons (tCB (rLen2 K) (tCons (tVar 2) tNil)) tNil))) tNil)) tNil)))) (tRet (tVar 3))))
section
variable {P : Program} {w : World} {K : PySem.W.Frag} {mg : Str → Option Value} {base : Heap}
theorem bd_law_mixed (T : Tp K mg base) {f : Addr} : Body P w K mg base (gx K) N_law_mixed "_law_mixed" (defScope s_law_mixed) f 1 (defBody s_law_mixed) m_law_mixed := fun cdv A outer s H E hr => by
  have nd := sc_law_mixed.nd
  refine ⟨t_law_mixed K P w, ?_, ?_⟩
  · exact (pss_cons (ps_par (i := 2) (j := 3) rfl nd rfl rfl (by decide) rfl rfl (pa_cons (pe_callTy cl_list rfl T.f_list bt_list (pa_cons (pv 1) pa_nil)) (pa_cons (pe_lst pa_nil) pa_nil)) rfl) (pss_cons (ps_for PassesOwn.never rfl (pi_range1 rfl T.f_range (pa_cons (pe_callB cl_len rfl T.f_len bt_len (pa_cons (pv 1) pa_nil)) pa_nil)) (pg_name (i := 4) nd rfl (by first | exact Or.inl rfl | exact Or.inr rfl)) (pss_one (ps_expr (pe_bm PySem.F.plainAttrs_list PySem.F.slot_list_append PySem.F.type_list_append mt_append (pv 3) (pa_cons (pe_bm PySem.F.plainAttrs_list PySem.F.slot_list_pop PySem.F.type_list_pop mt_popAt (pv 2) (pa_cons (C8.pe_c (cal_law_draw T) hr (by decide) rfl (pa_cons (pv 0) (pa_cons (pe_callB cl_len rfl T.f_len bt_len (pa_cons (pv 2) pa_nil)) pa_nil))) pa_nil)) pa_nil))))) (pss_one (ps_ret (pv 3)))))
  · exact (rs_seq (rs_par (by decide) (ref_ownC (ref_var 1)) (ref_ownL ref_nil)) (rs_seq (rs_for (vs := [4]) (ri_rg1 (ref_cons (ref_cb (ref_cons (ref_var 1) ref_nil) rc_len) ref_nil)) (rn_name (by decide)) (rs_append (ref_popAt (ref_callP (ref_cons ref_lenO ref_nil))))) (rs_ret (ref_var 3))))
theorem cal_law_mixed (T : Tp K mg base) : C8.Cal P w K mg base 2 "_law_mixed" (qSp (gx K) 1 fs_law_mixed) [] := by
  obtain ⟨fd, F⟩ := T.c.def_ 50 (d := d_law_mixed) rfl
  exact ⟨_, fd, ps_law_mixed, [], fn_pot (c := false) F sc_law_mixed (bd_law_mixed T) rfl (fun p i j ds DQ po _ h => h p i j po), T.g_law_mixed, F.kp, F.bindsN (fun _ _ _ _ _ _ us hl => match us, hl with | [_, _], _ => rfl), .nil⟩
end
/-! ### _law_lanes -/
abbrev N_law_lanes : List Str := ["_law_pot_here", "_law_many_here", "_law_lanes_here", "_law_ties", "_law_yard", "_law_open_ones", "_law_other", "_law_place", "_law_wanted", "_law_one"]
abbrev ps_law_lanes : List Str := ["_law_pot_here", "_law_many_here"]
theorem sc_law_lanes : FnScope N_law_lanes ps_law_lanes (defScope s_law_lanes) := ⟨rfl, rfl, rfl, by decide +kernel, rfl, by decide +kernel, by decide +kernel⟩
def m_law_lanes : DTS := (dSeq (dPar 2 3 (dOwnL dNil) (dOwnR (dCons (dC (.int 0)) dNil) (dVar 1))) (dSeq (dFor (dRg2 (dCons (dC (.int 1)) (dCons (dVar 1) dNil))) (gNm 4) (dSeq (dSet 5 (dDat (dLc (dRg1 (dCons (dVar 4) dNil)) (gNm 9) (dTst (dOp cLt (dIxO 3 (dVar 9)) (dC (.int 4)))) (dVar 9) [9]))) (dSeq (dSet 6 (dDat (dCallP 0 fs_law_pick (dCons (dVar 5) dNil)))) (dSeq (dAppend 2 (dTup (dCons (dVar 6) (dCons (dVar 4) dNil)))) (dAsg (dTup (dCons (dC (.int 1)) (dCons (dOp iAdd (dIxO 3 (dVar 6)) (dC (.int 1))) dNil))) (gTp (gCn (gSb 3 (dVar 4)) (gCn (gSb 3 (dVar 6)) gNl)))))))) (dSeq (dSet 7 (dDat (dVar 1))) (dSeq (dFor (dRg1 (dCons (dVar 1) dNil)) (gNm 4) (dSeq (dSet 8 (dDat (dCallP 0 fs_law_pick (dCons (dLst (dCons (dC (.int 2)) (dCons (dC (.int 2)) (dCons (dC (.int 3)) (dCons (dC (.int 3)) (dCons (dC (.int 4)) dNil)))))) dNil)))) (dWhile (dOr (dTst (dOp cLt (dIxO 3 (dVar 4)) (dVar 8))) (dTst (dOp cLt (dIxO 3 (dVar 4)) (dC (.int 2))))) (dSeq (dAppend 2 (dTup (dCons (dVar 4) (dCons (dVar 7) dNil)))) (dAsg (dTup (dCons (dOp iAdd (dVar 7) (dC (.int 1))) (dCons (dOp iAdd (dIxO 3 (dVar 4)) (dC (.int 1))) dNil))) (gTp (gCn (gNm 7) (gCn (gSb 3 (dVar 4)) gNl)))))))) (dRet (dVar 2))))))
def fs_law_lanes : DSp := fun ds Q => ∀ p i j, PotOk i j → m_law_lanes (potE p Q) (startP p (potN false i j) 10 ds)
def t_law_lanes (K : PySem.W.Frag) (P : Program) (w : World) : TS := (tSeq (tAsg (tTup (tCons (tLst tNil) (tCons (tOp rRep (tLst (tCons (tC (.int 0)) tNil)) (tVar 1)) tNil))) (gTup K 2 (gCons (gName 2) (gCons (gName 3) gNil)))) (tSeq (tFor (iRng2 (tCons (tC (.int 1)) (tCons (tVar 1) tNil))) (gName 4) (tSeq (tAsg (tLc (iRng1 (tCons (tVar 4) tNil)) (gName 9) (tTest (tOp rLt (tOp (rIx K) (tVar 3) (tVar 9)) (tC (.int 4)))) (tVar 9) [9]) (gName 5)) (tSeq (tAsg (tCall (qSp (gx K) 1 fs_law_pick) [] E0 (tCons (tVar 0) (tCons (tVar 5) tNil))) (gName 6)) (tSeq (tDrop (tBM K "list" rAppend (tVar 2) (tCons (tTup (tCons (tVar 6) (tCons (tVar 4) tNil))) tNil))) (tAsg (tTup (tCons (tC (.int 1)) (tCons (tOp rAdd (tOp (rIx K) (tVar 3) (tVar 6)) (tC (.int 1))) tNil))) (gTup K 2 (gCons (gSub (tVar 3) (tVar 4) rSetL) (gCons (gSub (tVar 3) (tVar 6) rSetL) gNil)))))))) (tSeq (tAsg (tVar 1) (gName 7)) (tSeq (tFor (iRng1 (tCons (tVar 1) tNil)) (gName 4) (tSeq (tAsg (tCall (qSp (gx K) 1 fs_law_pick) [] E0 (tCons (tVar 0) (tCons (tLst (tCons (tC (.int 2)) (tCons (tC (.int 2)) (tCons (tC (.int 3)) (tCons (tC (.int 3)) (tCons (tC (.int 4)) tNil)))))) tNil))) (gName 8)) (tWhile (tOr (tTest (tOp rLt (tOp (rIx K) (tVar 3) (tVar 4)) (tVar 8))) (tTest (tOp rLt (tOp (rIx K) (tVar 3) (tVar 4)) (tC (.int 2))))) (tSeq (tDrop (tBM K "list" rAppend (tVar 2) (tCons (tTup (tCons (tVar 4) (tCons (tVar 7) tNil))) tNil))) (tAsg (tTup (tCons (tOp rAdd (tVar 7) (tC (.int 1))) (tCons (tOp rAdd (tOp (rIx K) (tVar 3) (tVar 4)) (tC (.int 1))) tNil))) (gTup K 2 (gCons (gName 7) (gCons (gSub (tVar 3) (tVar 4) rSetL) gNil)))))))) (tRet (tVar 2))))))
section
variable {P : Program} {w : World} {K : PySem.W.Frag} {mg : Str → Option Value} {base : Heap}
theorem bd_law_lanes (T : Tp K mg base) {f : Addr} : Body P w K mg base (gx K) N_law_lanes "_law_lanes" (defScope s_law_lanes) f 2 (defBody s_law_lanes) m_law_lanes := fun cdv A outer s H E hr => by
  have nd := sc_law_lanes.nd
  refine ⟨t_law_lanes K P w, ?_, ?_⟩
  · exact (pss_cons (ps_asg (pe_tup (pa_cons (pe_lst pa_nil) (pa_cons (pe_op op_rep (pe_lst (pa_cons pe_int pa_nil)) (pv 1)) pa_nil))) (pg_tup rfl (pgs_cons (pg_name (i := 2) nd rfl (by first | exact Or.inl rfl | exact Or.inr rfl)) (pgs_cons (pg_name (i := 3) nd rfl (by first | exact Or.inl rfl | exact Or.inr rfl)) pgs_nil)))) (pss_cons (ps_for PassesOwn.never rfl (pi_range2 rfl T.f_range (pa_cons pe_int (pa_cons (pv 1) pa_nil))) (pg_name (i := 4) nd rfl (by first | exact Or.inl rfl | exact Or.inr rfl)) (pss_cons (ps_setLc (i := 5) (own := [("_law_one", 9)]) (g := (gName 9)) (tt := (tTest (tOp rLt (tOp (rIx K) (tVar 3) (tVar 9)) (tC (.int 4))))) (te := (tVar 9)) rfl nd rfl rfl (sw_true rfl rfl rfl (by decide +kernel)) (pi_range1 rfl T.f_range (pa_cons (pv 4) pa_nil)) (blkOk_by (N := N_law_lanes) (sc := defScope s_law_lanes) (by decide +kernel)) (fun _ _ _ _ _ => (pg_name (i := 9) nd rfl (by first | exact Or.inl rfl | exact Or.inr rfl))) (fun _ _ _ _ _ => (pts_one (pt_cmpR op_lt (pe_ix ix_seq (pv 3) (pv 9) (fun _ _ => rfl)) pe_int (nomark _)))) (fun _ _ _ _ _ => (pv 9))) (pss_cons (ps_set (i := 6) nd rfl (Or.inl rfl) (C8.pe_c (cal_law_pick T) hr (by decide) rfl (pa_cons (pv 0) (pa_cons (pv 5) pa_nil)))) (pss_cons (ps_expr (pe_bm PySem.F.plainAttrs_list PySem.F.slot_list_append PySem.F.type_list_append mt_append (pv 2) (pa_cons (pe_tup (pa_cons (pv 6) (pa_cons (pv 4) pa_nil))) pa_nil))) (pss_one (ps_asg (pe_tup (pa_cons pe_int (pa_cons (pe_op op_add (pe_ix ix_seq (pv 3) (pv 6) (fun _ _ => rfl)) pe_int) pa_nil))) (pg_tup rfl (pgs_cons (pg_sub (pv 3) (pv 4) set_list) (pgs_cons (pg_sub (pv 3) (pv 6) set_list) pgs_nil))))))))) (pss_cons (ps_set (i := 7) nd rfl (Or.inl rfl) (pv 1)) (pss_cons (ps_for PassesOwn.never rfl (pi_range1 rfl T.f_range (pa_cons (pv 1) pa_nil)) (pg_name (i := 4) nd rfl (by first | exact Or.inl rfl | exact Or.inr rfl)) (pss_cons (ps_set (i := 8) nd rfl (Or.inl rfl) (C8.pe_c (cal_law_pick T) hr (by decide) rfl (pa_cons (pv 0) (pa_cons (pe_lst (pa_cons pe_int (pa_cons pe_int (pa_cons pe_int (pa_cons pe_int (pa_cons pe_int pa_nil)))))) pa_nil)))) (pss_one (ps_while PassesOwn.never (PW.pt (pw_or (pt_cmpR op_lt (pe_ix ix_seq (pv 3) (pv 4) (fun _ _ => rfl)) (pv 8) (nomark _)) (pw_or1 (pt_cmpR op_lt (pe_ix ix_seq (pv 3) (pv 4) (fun _ _ => rfl)) pe_int (nomark _))))) (pss_cons (ps_expr (pe_bm PySem.F.plainAttrs_list PySem.F.slot_list_append PySem.F.type_list_append mt_append (pv 2) (pa_cons (pe_tup (pa_cons (pv 4) (pa_cons (pv 7) pa_nil))) pa_nil))) (pss_one (ps_asg (pe_tup (pa_cons (pe_op op_add (pv 7) pe_int) (pa_cons (pe_op op_add (pe_ix ix_seq (pv 3) (pv 4) (fun _ _ => rfl)) pe_int) pa_nil))) (pg_tup rfl (pgs_cons (pg_name (i := 7) nd rfl (Or.inl rfl)) (pgs_cons (pg_sub (pv 3) (pv 4) set_list) pgs_nil)))))))))) (pss_one (ps_ret (pv 2)))))))
  · exact (rs_seq (rs_parT (by decide) (ref_ownL ref_nil) (ref_ownR (ref_cons (ref_c fun _ _ => rfl) ref_nil) (ref_var 1))) (rs_seq (rs_for (vs := [4]) (ri_rg2 (ref_cons (ref_c fun _ _ => rfl) (ref_cons (ref_var 1) ref_nil))) (rn_name (by decide)) (rs_seq (rs_set (ref_dat (ref_lc (ri_rg1 (ref_cons (ref_var 4) ref_nil)) (rn_name (by decide)) (ref_tst (ref_op (ref_ixO (ref_var 9)) (ref_c fun _ _ => rfl) rr_c)) (ref_var 9)))) (rs_seq (rs_set (ref_dat (ref_callP (ref_cons (ref_var 5) ref_nil)))) (rs_seq (rs_append (ref_tup (ref_cons (ref_var 6) (ref_cons (ref_var 4) ref_nil)))) (rs_asg (ref_tup (ref_cons (ref_c fun _ _ => rfl) (ref_cons (ref_op (ref_ixO (ref_var 6)) (ref_c fun _ _ => rfl) rr_i0) ref_nil))) (rg_tup (rg_cons (rg_sub (ref_var 4)) (rg_cons (rg_sub (ref_var 6)) rg_nil (gSb_ex dVar_ex)) (gSb_ex dVar_ex)))))))) (rs_seq (rs_set (ref_dat (ref_var 1))) (rs_seq (rs_for (vs := [4]) (ri_rg1 (ref_cons (ref_var 1) ref_nil)) (rn_name (by decide)) (rs_seq (rs_set (ref_dat (ref_callP (ref_cons (ref_lst (ref_cons (ref_c fun _ _ => rfl) (ref_cons (ref_c fun _ _ => rfl) (ref_cons (ref_c fun _ _ => rfl) (ref_cons (ref_c fun _ _ => rfl) (ref_cons (ref_c fun _ _ => rfl) ref_nil)))))) ref_nil)))) (rs_while (ref_or (ref_tst (ref_op (ref_ixO (ref_var 4)) (ref_var 8) rr_c)) (ref_tst (ref_op (ref_ixO (ref_var 4)) (ref_c fun _ _ => rfl) rr_c))) (rs_seq (rs_append (ref_tup (ref_cons (ref_var 4) (ref_cons (ref_var 7) ref_nil)))) (rs_asg (ref_tup (ref_cons (ref_op (ref_var 7) (ref_c fun _ _ => rfl) rr_i0) (ref_cons (ref_op (ref_ixO (ref_var 4)) (ref_c fun _ _ => rfl) rr_i0) ref_nil))) (rg_tup (rg_cons (rg_n (rn_name (vs := [7]) (by decide))) (rg_cons (rg_sub (ref_var 4)) rg_nil (gSb_ex dVar_ex)) gNm_ex))))))) (rs_ret (ref_var 2))))))
theorem cal_law_lanes (T : Tp K mg base) : C8.Cal P w K mg base 3 "_law_lanes" (qSp (gx K) 1 fs_law_lanes) [] := by
  obtain ⟨fd, F⟩ := T.c.def_ 51 (d := d_law_lanes) rfl
  exact ⟨_, fd, ps_law_lanes, [], fn_pot (c := false) F sc_law_lanes (bd_law_lanes T) rfl (fun p i j ds DQ po _ h => h p i j po), T.g_law_lanes, F.kp, F.bindsN (fun _ _ _ _ _ _ us hl => match us, hl with | [_, _], _ => rfl), .nil⟩
end
/-! ### _law_renumbered -/
abbrev N_law_renumbered : List Str := ["_law_pot_here", "_law_lanes_here", "_law_names", "_law_near", "_law_far"]
abbrev ps_law_renumbered : List Str := ["_law_pot_here", "_law_lanes_here"]
theorem sc_law_renumbered : FnScope N_law_renumbered ps_law_renumbered (defScope s_law_renumbered) := ⟨rfl, rfl, rfl, by decide +kernel, rfl, by decide +kernel, by decide +kernel⟩
def m_law_renumbered : DTS := (dSeq (dSet 2 (dDat (dCallP 0 fs_law_mixed (dCons (dListRg (dOp iAdd (dCB lenD (dCons (dVar 1) dNil)) (dC (.int 1)))) dNil)))) (dRet (dLc (dItL (dVar 1)) (gTp (gCn (gNm 3) (gCn (gNm 4) gNl))) dYes (dTup (dCons (dOp ixOp (dVar 2) (dVar 3)) (dCons (dOp ixOp (dVar 2) (dVar 4)) dNil))) [3, 4])))
def fs_law_renumbered : DSp := fun ds Q => ∀ p i j, PotOk i j → m_law_renumbered (potE p Q) (startP p (potN false i j) 5 ds)
def t_law_renumbered (K : PySem.W.Frag) (P : Program) (w : World) : TS := (tSeq (tAsg (tCall (qSp (gx K) 1 fs_law_mixed) [] E0 (tCons (tVar 0) (tCons (tLstRg (tRg1 (tOp rAdd (tCB (rLen2 K) (tCons (tVar 1) tNil)) (tC (.int 1))))) tNil))) (gName 2)) (tRet (tLc (iList K (tVar 1)) (gTup K 2 (gCons (gName 3) (gCons (gName 4) gNil))) tYes (tTup (tCons (tOp (rIx K) (tVar 2) (tVar 3)) (tCons (tOp (rIx K) (tVar 2) (tVar 4)) tNil))) [3, 4])))
section
variable {P : Program} {w : World} {K : PySem.W.Frag} {mg : Str → Option Value} {base : Heap}
theorem bd_law_renumbered (T : Tp K mg base) {f : Addr} : Body P w K mg base (gx K) N_law_renumbered "_law_renumbered" (defScope s_law_renumbered) f 2 (defBody s_law_renumbered) m_law_renumbered := fun cdv A outer s H E hr => by
  have nd := sc_law_renumbered.nd
  refine ⟨t_law_renumbered K P w, ?_, ?_⟩
  · exact (pss_cons (ps_set (i := 2) nd rfl (Or.inr rfl) (C8.pe_c (cal_law_mixed T) hr (by decide) rfl (pa_cons (pv 0) (pa_cons (pe_listRg rfl rfl T.f_list (prg_1 rfl T.f_range (pe_op op_add (pe_callB cl_len rfl T.f_len bt_len (pa_cons (pv 1) pa_nil)) pe_int))) pa_nil)))) (pss_one (ps_ret (pe_lc (own := [("_law_near", 3), ("_law_far", 4)]) (g := (gTup K 2 (gCons (gName 3) (gCons (gName 4) gNil)))) (tt := tYes) (te := (tTup (tCons (tOp (rIx K) (tVar 2) (tVar 3)) (tCons (tOp (rIx K) (tVar 2) (tVar 4)) tNil)))) rfl nd (pi_list (pv 1)) (blkOk_by (N := N_law_renumbered) (sc := defScope s_law_renumbered) (by decide +kernel)) (fun _ _ _ _ _ => (pg_tup rfl (pgs_cons (pg_name (i := 3) nd rfl (by first | exact Or.inl rfl | exact Or.inr rfl)) (pgs_cons (pg_name (i := 4) nd rfl (by first | exact Or.inl rfl | exact Or.inr rfl)) pgs_nil)))) (fun _ _ _ _ _ => pts_nil) (fun _ _ _ _ _ => (pe_tup (pa_cons (pe_ix ix_seq (pv 2) (pv 3) (fun _ _ => rfl)) (pa_cons (pe_ix ix_seq (pv 2) (pv 4) (fun _ _ => rfl)) pa_nil))))))))
  · exact (rs_seq (rs_set (ref_dat (ref_callP (ref_cons (ref_listRg (ref_op (ref_cb (ref_cons (ref_var 1) ref_nil) rc_len) (ref_c fun _ _ => rfl) rr_i0)) ref_nil)))) (rs_ret (ref_lc (ri_list (ref_var 1)) (rn_tup (rn_cons1 (by decide) (rn_cons1 (by decide) rn_nil))) rt_yes (ref_tup (ref_cons (ref_op (ref_var 2) (ref_var 3) rr_ix) (ref_cons (ref_op (ref_var 2) (ref_var 4) rr_ix) ref_nil))))))
theorem cal_law_renumbered (T : Tp K mg base) : C8.Cal P w K mg base 3 "_law_renumbered" (qSp (gx K) 1 fs_law_renumbered) [] := by
  obtain ⟨fd, F⟩ := T.c.def_ 52 (d := d_law_renumbered) rfl
  exact ⟨_, fd, ps_law_renumbered, [], fn_pot (c := false) F sc_law_renumbered (bd_law_renumbered T) rfl (fun p i j ds DQ po _ h => h p i j po), T.g_law_renumbered, F.kp, F.bindsN (fun _ _ _ _ _ _ us hl => match us, hl with | [_, _], _ => rfl), .nil⟩
end
/-! ### _law_beside -/
abbrev N_law_beside : List Str := ["_law_lanes_here", "_law_place", "_law_near", "_law_far"]
abbrev ps_law_beside : List Str := ["_law_lanes_here", "_law_place"]
theorem sc_law_beside : FnScope N_law_beside ps_law_beside (defScope s_law_beside) := ⟨rfl, rfl, rfl, by decide +kernel, rfl, by decide +kernel, by decide +kernel⟩
def m_law_beside : DTS := (dRet (dCB sortedD (dCons (dOp catOp (dLc (dItL (dVar 0)) (gTp (gCn (gNm 2) (gCn (gNm 3) gNl))) (dTst (dOp eqOp (dVar 2) (dVar 1))) (dVar 3) [2, 3]) (dLc (dItL (dVar 0)) (gTp (gCn (gNm 2) (gCn (gNm 3) gNl))) (dTst (dOp eqOp (dVar 3) (dVar 1))) (dVar 2) [2, 3])) dNil)))
def fs_law_beside : DSp := fun ds Q => m_law_beside (pureE Q) (startD 4 ds)
def t_law_beside (K : PySem.W.Frag) (P : Program) (w : World) : TS := (tRet (tCB (rSortedD K) (tCons (tOp rCat (tLc (iList K (tVar 0)) (gTup K 2 (gCons (gName 2) (gCons (gName 3) gNil))) (tTest (tOp (rEqD K) (tVar 2) (tVar 1))) (tVar 3) [2, 3]) (tLc (iList K (tVar 0)) (gTup K 2 (gCons (gName 2) (gCons (gName 3) gNil))) (tTest (tOp (rEqD K) (tVar 3) (tVar 1))) (tVar 2) [2, 3])) tNil)))
section
variable {P : Program} {w : World} {K : PySem.W.Frag} {mg : Str → Option Value} {base : Heap}
theorem bd_law_beside (T : Tp K mg base) {f : Addr} : Body P w K mg base (gx K) N_law_beside "_law_beside" (defScope s_law_beside) f 0 (defBody s_law_beside) m_law_beside := fun cdv A outer s H E hr => by
  have nd := sc_law_beside.nd
  refine ⟨t_law_beside K P w, ?_, ?_⟩
  · exact (pss_one (ps_ret (pe_callB (cr_sortedD (hu4 hr)) rfl T.f_sorted bt_sorted (pa_cons (pe_op op_cat (pe_lc (own := [("_law_near", 2), ("_law_far", 3)]) (g := (gTup K 2 (gCons (gName 2) (gCons (gName 3) gNil)))) (tt := (tTest (tOp (rEqD K) (tVar 2) (tVar 1)))) (te := (tVar 3)) rfl nd (pi_list (pv 0)) (blkOk_by (N := N_law_beside) (sc := defScope s_law_beside) (by decide +kernel)) (fun _ _ _ _ _ => (pg_tup rfl (pgs_cons (pg_name (i := 2) nd rfl (by first | exact Or.inl rfl | exact Or.inr rfl)) (pgs_cons (pg_name (i := 3) nd rfl (by first | exact Or.inl rfl | exact Or.inr rfl)) pgs_nil)))) (fun _ _ _ _ _ => (pts_one (pt_cmpR (op_eqD (hu4 hr)) (pv 2) (pv 1) (nomark _)))) (fun _ _ _ _ _ => (pv 3))) (pe_lc (own := [("_law_near", 2), ("_law_far", 3)]) (g := (gTup K 2 (gCons (gName 2) (gCons (gName 3) gNil)))) (tt := (tTest (tOp (rEqD K) (tVar 3) (tVar 1)))) (te := (tVar 2)) rfl nd (pi_list (pv 0)) (blkOk_by (N := N_law_beside) (sc := defScope s_law_beside) (by decide +kernel)) (fun _ _ _ _ _ => (pg_tup rfl (pgs_cons (pg_name (i := 2) nd rfl (by first | exact Or.inl rfl | exact Or.inr rfl)) (pgs_cons (pg_name (i := 3) nd rfl (by first | exact Or.inl rfl | exact Or.inr rfl)) pgs_nil)))) (fun _ _ _ _ _ => (pts_one (pt_cmpR (op_eqD (hu4 hr)) (pv 3) (pv 1) (nomark _)))) (fun _ _ _ _ _ => (pv 2)))) pa_nil))))
  · exact (rs_ret (ref_cb (ref_cons (ref_op (ref_lc (ri_list (ref_var 0)) (rn_tup (rn_cons1 (by decide) (rn_cons1 (by decide) rn_nil))) (ref_tst (ref_op (ref_var 2) (ref_var 1) rr_eq)) (ref_var 3)) (ref_lc (ri_list (ref_var 0)) (rn_tup (rn_cons1 (by decide) (rn_cons1 (by decide) rn_nil))) (ref_tst (ref_op (ref_var 3) (ref_var 1) rr_eq)) (ref_var 2)) rr_cat) ref_nil) rc_sorted))
theorem cal_law_beside (T : Tp K mg base) : C8.Cal P w K mg base 1 "_law_beside" (pSp (gx K) 2 fs_law_beside) [] := by
  obtain ⟨fd, F⟩ := T.c.def_ 53 (d := d_law_beside) rfl
  exact ⟨_, fd, ps_law_beside, [], fn_pure F sc_law_beside (bd_law_beside T) (fun ds DQ _ h => h), T.g_law_beside, F.kp, F.bindsN (fun _ _ _ _ _ _ us hl => match us, hl with | [_, _], _ => rfl), .nil⟩
end
/-! ### _law_yards -/
abbrev N_law_yards : List Str := ["_law_lanes_here", "_law_place"]
abbrev ps_law_yards : List Str := ["_law_lanes_here"]
theorem sc_law_yards : FnScope N_law_yards ps_law_yards (defScope s_law_yards) := ⟨rfl, rfl, rfl, by decide +kernel, rfl, by decide +kernel, by decide +kernel⟩
def m_law_yards : DTS := (dRet (dLc (dRg1 (dCons (dOp iAdd (dCB lenD (dCons (dVar 0) dNil)) (dC (.int 1))) dNil)) (gNm 1) (dTst (dOp cGt (dCB lenD (dCons (dCall fs_law_beside [] (dCons (dVar 0) (dCons (dVar 1) dNil))) dNil)) (dC (.int 1)))) (dVar 1) [1]))
def fs_law_yards : DSp := fun ds Q => m_law_yards (pureE Q) (startD 2 ds)
def t_law_yards (K : PySem.W.Frag) (P : Program) (w : World) : TS := (tRet (tLc (iRng1 (tCons (tOp rAdd (tCB (rLen2 K) (tCons (tVar 0) tNil)) (tC (.int 1))) tNil)) (gName 1) (tTest (tOp rGt (tCB (rLen2 K) (tCons (tCall (pSp (gx K) 2 fs_law_beside) [] E0 (tCons (tVar 0) (tCons (tVar 1) tNil))) tNil)) (tC (.int 1)))) (tVar 1) [1]))
section
variable {P : Program} {w : World} {K : PySem.W.Frag} {mg : Str → Option Value} {base : Heap}
theorem bd_law_yards (T : Tp K mg base) {f : Addr} : Body P w K mg base (gx K) N_law_yards "_law_yards" (defScope s_law_yards) f 1 (defBody s_law_yards) m_law_yards := fun cdv A outer s H E hr => by
  have nd := sc_law_yards.nd
  refine ⟨t_law_yards K P w, ?_, ?_⟩
  · exact (pss_one (ps_ret (pe_lc (own := [("_law_place", 1)]) (g := (gName 1)) (tt := (tTest (tOp rGt (tCB (rLen2 K) (tCons (tCall (pSp (gx K) 2 fs_law_beside) [] E0 (tCons (tVar 0) (tCons (tVar 1) tNil))) tNil)) (tC (.int 1))))) (te := (tVar 1)) rfl nd (pi_range1 rfl T.f_range (pa_cons (pe_op op_add (pe_callB cl_len rfl T.f_len bt_len (pa_cons (pv 0) pa_nil)) pe_int) pa_nil)) (blkOk_by (N := N_law_yards) (sc := defScope s_law_yards) (by decide +kernel)) (fun _ _ _ _ _ => (pg_name (i := 1) nd rfl (by first | exact Or.inl rfl | exact Or.inr rfl))) (fun _ _ _ _ _ => (pts_one (pt_cmpR op_gt (pe_callB cl_len rfl T.f_len bt_len (pa_cons (C8.pe_c (cal_law_beside T) hr (by decide) rfl (pa_cons (pv 0) (pa_cons (pv 1) pa_nil))) pa_nil)) pe_int (nomark _)))) (fun _ _ _ _ _ => (pv 1)))))
  · exact (rs_ret (ref_lc (ri_rg1 (ref_cons (ref_op (ref_cb (ref_cons (ref_var 0) ref_nil) rc_len) (ref_c fun _ _ => rfl) rr_i0) ref_nil)) (rn_name (by decide)) (ref_tst (ref_op (ref_cb (ref_cons (ref_call (es := []) (fun _ _ => rfl) (ref_cons (ref_var 0) (ref_cons (ref_var 1) ref_nil))) ref_nil) rc_len) (ref_c fun _ _ => rfl) rr_c)) (ref_var 1)))
theorem cal_law_yards (T : Tp K mg base) : C8.Cal P w K mg base 2 "_law_yards" (pSp (gx K) 1 fs_law_yards) [] := by
  obtain ⟨fd, F⟩ := T.c.def_ 54 (d := d_law_yards) rfl
  exact ⟨_, fd, ps_law_yards, [], fn_pure F sc_law_yards (bd_law_yards T) (fun ds DQ _ h => h), T.g_law_yards, F.kp, F.bindsN (fun _ _ _ _ _ _ us hl => match us, hl with | [_], _ => rfl), .nil⟩
end
/-! ### _law_pairs -/
abbrev N_law_pairs : List Str := ["_law_near", "_law_found", "_law_origin", "_law_target"]
abbrev ps_law_pairs : List Str := ["_law_near"]
theorem sc_law_pairs : FnScope N_law_pairs ps_law_pairs (defScope s_law_pairs) := ⟨rfl, rfl, rfl, by decide +kernel, rfl, by decide +kernel, by decide +kernel⟩
def m_law_pairs : DTS := (dSeq (dSet 1 (dDat (dLst dNil))) (dSeq (dFor (dItL (dVar 0)) (gNm 2) (dSet 1 (dDat (dOp catOp (dVar 1) (dLc (dItL (dVar 0)) (gNm 3) (dTst (dOp neOp (dVar 3) (dVar 2))) (dTup (dCons (dVar 2) (dCons (dVar 3) dNil))) [3]))))) (dRet (dVar 1))))
def fs_law_pairs : DSp := fun ds Q => m_law_pairs (pureE Q) (startD 4 ds)
def t_law_pairs (K : PySem.W.Frag) (P : Program) (w : World) : TS := (tSeq (tAsg (tLst tNil) (gName 1)) (tSeq (tFor (iList K (tVar 0)) (gName 2) (tAsg (tOp rCat (tVar 1) (tLc (iList K (tVar 0)) (gName 3) (tTest (tOp (rNeD K) (tVar 3) (tVar 2))) (tTup (tCons (tVar 2) (tCons (tVar 3) tNil))) [3])) (gName 1))) (tRet (tVar 1))))
section
variable {P : Program} {w : World} {K : PySem.W.Frag} {mg : Str → Option Value} {base : Heap}
theorem bd_law_pairs (T : Tp K mg base) {f : Addr} : Body P w K mg base (gx K) N_law_pairs "_law_pairs" (defScope s_law_pairs) f 0 (defBody s_law_pairs) m_law_pairs := fun cdv A outer s H E hr => by
  have nd := sc_law_pairs.nd
  refine ⟨t_law_pairs K P w, ?_, ?_⟩
  · exact (pss_cons (ps_set (i := 1) nd rfl (Or.inl rfl) (pe_lst pa_nil)) (pss_cons (ps_for PassesOwn.never rfl (pi_list (pv 0)) (pg_name (i := 2) nd rfl (by first | exact Or.inl rfl | exact Or.inr rfl)) (pss_one (ps_set (i := 1) nd rfl (Or.inl rfl) (pe_op op_cat (pv 1) (pe_lc (own := [("_law_target", 3)]) (g := (gName 3)) (tt := (tTest (tOp (rNeD K) (tVar 3) (tVar 2)))) (te := (tTup (tCons (tVar 2) (tCons (tVar 3) tNil)))) rfl nd (pi_list (pv 0)) (blkOk_by (N := N_law_pairs) (sc := defScope s_law_pairs) (by decide +kernel)) (fun _ _ _ _ _ => (pg_name (i := 3) nd rfl (by first | exact Or.inl rfl | exact Or.inr rfl))) (fun _ _ _ _ _ => (pts_one (pt_cmpR (op_neD (hu4 hr)) (pv 3) (pv 2) (nomark _)))) (fun _ _ _ _ _ => (pe_tup (pa_cons (pv 2) (pa_cons (pv 3) pa_nil))))))))) (pss_one (ps_ret (pv 1)))))
  · exact (rs_seq (rs_set (ref_dat (ref_lst ref_nil))) (rs_seq (rs_for (vs := [2]) (ri_list (ref_var 0)) (rn_name (by decide)) (rs_set (ref_dat (ref_op (ref_var 1) (ref_lc (ri_list (ref_var 0)) (rn_name (by decide)) (ref_tst (ref_op (ref_var 3) (ref_var 2) rr_ne)) (ref_tup (ref_cons (ref_var 2) (ref_cons (ref_var 3) ref_nil)))) rr_cat)))) (rs_ret (ref_var 1))))
theorem cal_law_pairs (T : Tp K mg base) : C8.Cal P w K mg base 1 "_law_pairs" (pSp (gx K) 1 fs_law_pairs) [] := by
  obtain ⟨fd, F⟩ := T.c.def_ 55 (d := d_law_pairs) rfl
  exact ⟨_, fd, ps_law_pairs, [], fn_pure F sc_law_pairs (bd_law_pairs T) (fun ds DQ _ h => h), T.g_law_pairs, F.kp, F.bindsN (fun _ _ _ _ _ _ us hl => match us, hl with | [_], _ => rfl), .nil⟩
end
/-! ### _law_book -/
abbrev N_law_book : List Str := ["_law_pot_here", "_law_near", "_law_most", "_law_found", "_law_turn", "_law_places", "_law_bounds", "_law_bound", "_law_origin", "_law_target", "_law_way", "_law_least"]
abbrev ps_law_book : List Str := ["_law_pot_here", "_law_near", "_law_most"]
theorem sc_law_book : FnScope N_law_book ps_law_book (defScope s_law_book) := ⟨rfl, rfl, rfl, by decide +kernel, rfl, by decide +kernel, by decide +kernel⟩
def m_law_book : DTS := (dSeq (dSet 3 (dOwnL dNil)) (dSeq (dFor (dRg1 (dCons (dOp iAdd (dC (.int 1)) (dCallP 0 fs_law_draw (dCons (dC (.int 3)) dNil))) dNil)) (gNm 4) (dSeq (dPar 5 6 (dDat (dOp iAdd (dC (.int 1)) (dCallP 0 fs_law_draw (dCons (dVar 2) dNil)))) (dOwnL dNil)) (dSeq (dFor (dRg1 (dCons (dCallP 0 fs_law_draw (dCons (dC (.int 3)) dNil)) dNil)) (gNm 7) (dSeq (dAsg (dCallP 0 fs_law_pick (dCons (dCall fs_law_pairs [] (dCons (dVar 1) dNil)) dNil)) (gTp (gCn (gNm 8) (gCn (gNm 9) gNl)))) (dSeq (dPar 10 11 (dDat (dCallP 0 fs_law_draw (dCons (dC (.int 3)) dNil))) (dDat (dIfE (dTst (dOp eqOp (dVar 4) (dC (.int 0)))) (dC (.int 1)) (dC (.int 0))))) (dAppend 6 (dTup (dCons (dIfE (dTst (dOp eqOp (dVar 10) (dC (.int 0)))) (dC .non) (dVar 8)) (dCons (dIfE (dTst (dOp eqOp (dVar 10) (dC (.int 1)))) (dC .non) (dVar 9)) (dCons (dOp iAdd (dVar 11) (dCallP 0 fs_law_draw (dCons (dC (.int 3)) dNil))) dNil)))))))) (dAppend 3 (dTup (dCons (dVar 5) (dCons (dVar 6) dNil))))))) (dRet (dCallP 0 fs_law_mixed (dCons (dVar 3) dNil)))))
def fs_law_book : DSp := fun ds Q => ∀ p i j, PotOk i j → m_law_book (potE p Q) (startP p (potN false i j) 12 ds)
def t_law_book (K : PySem.W.Frag) (P : Program) (w : World) : TS := (tSeq (tAsg (tLst tNil) (gName 3)) (tSeq (tFor (iRng1 (tCons (tOp rAdd (tC (.int 1)) (tCall (qSp (gx K) 1 fs_law_draw) [] E0 (tCons (tVar 0) (tCons (tC (.int 3)) tNil)))) tNil)) (gName 4) (tSeq (tPar 5 6 (tCons (tOp rAdd (tC (.int 1)) (tCall (qSp (gx K) 1 fs_law_draw) [] E0 (tCons (tVar 0) (tCons (tVar 2) tNil)))) (tCons (tLst tNil) tNil))) (tSeq (tFor (iRng1 (tCons (tCall (qSp (gx K) 1 fs_law_draw) [] E0 (tCons (tVar 0) (tCons (tC (.int 3)) tNil))) tNil)) (gName 7) (tSeq (tAsg (tCall (qSp (gx K) 1 fs_law_pick) [] E0 (tCons (tVar 0) (tCons (tCall (pSp (gx K) 1 fs_law_pairs) [] E0 (tCons (tVar 1) tNil)) tNil))) (gTup K 2 (gCons (gName 8) (gCons (gName 9) gNil)))) (tSeq (tPar 10 11 (tCons (tCall (qSp (gx K) 1 fs_law_draw) [] E0 (tCons (tVar 0) (tCons (tC (.int 3)) tNil))) (tCons (tIf (tTest (tOp (rEqD K) (tVar 4) (tC (.int 0)))) (tC (.int 1)) (tC (.int 0))) tNil))) (tDrop (tBM K "list" rAppend (tVar 6) (tCons (tTup (tCons (tIf (tTest (tOp (rEqD K) (tVar 10) (tC (.int 0)))) (tC .non) (tVar 8)) (tCons (tIf (tTest (tOp (rEqD K) (tVar 10) (tC (.int 1)))) (tC .non) (tVar 9)) (tCons (tOp rAdd (tVar 11) (tCall (qSp (gx K) 1 fs_law_draw) [] E0 (tCons (tVar 0) (tCons (tC (.int 3)) tNil)))) tNil)))) tNil)))))) (tDrop (tBM K "list" rAppend (tVar 3) (tCons (tTup (tCons (tVar 5) (tCons (tVar 6) tNil))) tNil)))))) (tRet (tCall (qSp (gx K) 1 fs_law_mixed) [] E0 (tCons (tVar 0) (tCons (tVar 3) tNil))))))
section
variable {P : Program} {w : World} {K : PySem.W.Frag} {mg : Str → Option Value} {base : Heap}
theorem bd_law_book (T : Tp K mg base) {f : Addr} : Body P w K mg base (gx K) N_law_book "_law_book" (defScope s_law_book) f 2 (defBody s_law_book) m_law_book := fun cdv A outer s H E hr => by
  have nd := sc_law_book.nd
  refine ⟨t_law_book K P w, ?_, ?_⟩
  · exact (pss_cons (ps_set (i := 3) nd rfl (Or.inl rfl) (pe_lst pa_nil)) (pss_cons (ps_for PassesOwn.never rfl (pi_range1 rfl T.f_range (pa_cons (pe_op op_add pe_int (C8.pe_c (cal_law_draw T) hr (by decide) rfl (pa_cons (pv 0) (pa_cons pe_int pa_nil)))) pa_nil)) (pg_name (i := 4) nd rfl (by first | exact Or.inl rfl | exact Or.inr rfl)) (pss_cons (ps_par (i := 5) (j := 6) rfl nd rfl rfl (by decide) rfl rfl (pa_cons (pe_op op_add pe_int (C8.pe_c (cal_law_draw T) hr (by decide) rfl (pa_cons (pv 0) (pa_cons (pv 2) pa_nil)))) (pa_cons (pe_lst pa_nil) pa_nil)) rfl) (pss_cons (ps_for PassesOwn.never rfl (pi_range1 rfl T.f_range (pa_cons (C8.pe_c (cal_law_draw T) hr (by decide) rfl (pa_cons (pv 0) (pa_cons pe_int pa_nil))) pa_nil)) (pg_name (i := 7) nd rfl (by first | exact Or.inl rfl | exact Or.inr rfl)) (pss_cons (ps_asg (C8.pe_c (cal_law_pick T) hr (by decide) rfl (pa_cons (pv 0) (pa_cons (C8.pe_c (cal_law_pairs T) hr (by decide) rfl (pa_cons (pv 1) pa_nil)) pa_nil))) (pg_tup rfl (pgs_cons (pg_name (i := 8) nd rfl (Or.inl rfl)) (pgs_cons (pg_name (i := 9) nd rfl (Or.inl rfl)) pgs_nil)))) (pss_cons (ps_par (i := 10) (j := 11) rfl nd rfl rfl (by decide) rfl rfl (pa_cons (C8.pe_c (cal_law_draw T) hr (by decide) rfl (pa_cons (pv 0) (pa_cons pe_int pa_nil))) (pa_cons (pe_ifExp (pt_cmpR (op_eqD (hu4 hr)) (pv 4) pe_int (nomark _)) pe_int pe_int) pa_nil)) rfl) (pss_one (ps_expr (pe_bm PySem.F.plainAttrs_list PySem.F.slot_list_append PySem.F.type_list_append mt_append (pv 6) (pa_cons (pe_tup (pa_cons (pe_ifExp (pt_cmpR (op_eqD (hu4 hr)) (pv 10) pe_int (nomark _)) pe_non (pv 8)) (pa_cons (pe_ifExp (pt_cmpR (op_eqD (hu4 hr)) (pv 10) pe_int (nomark _)) pe_non (pv 9)) (pa_cons (pe_op op_add (pv 11) (C8.pe_c (cal_law_draw T) hr (by decide) rfl (pa_cons (pv 0) (pa_cons pe_int pa_nil)))) pa_nil)))) pa_nil))))))) (pss_one (ps_expr (pe_bm PySem.F.plainAttrs_list PySem.F.slot_list_append PySem.F.type_list_append mt_append (pv 3) (pa_cons (pe_tup (pa_cons (pv 5) (pa_cons (pv 6) pa_nil))) pa_nil))))))) (pss_one (ps_ret (C8.pe_c (cal_law_mixed T) hr (by decide) rfl (pa_cons (pv 0) (pa_cons (pv 3) pa_nil)))))))
  · exact (rs_seq (rs_set (ref_ownL ref_nil)) (rs_seq (rs_for (vs := [4]) (ri_rg1 (ref_cons (ref_op (ref_c fun _ _ => rfl) (ref_callP (ref_cons (ref_c fun _ _ => rfl) ref_nil)) rr_i0) ref_nil)) (rn_name (by decide)) (rs_seq (rs_par (by decide) (ref_dat (ref_op (ref_c fun _ _ => rfl) (ref_callP (ref_cons (ref_var 2) ref_nil)) rr_i0)) (ref_ownL ref_nil)) (rs_seq (rs_for (vs := [7]) (ri_rg1 (ref_cons (ref_callP (ref_cons (ref_c fun _ _ => rfl) ref_nil)) ref_nil)) (rn_name (by decide)) (rs_seq (rs_asg (ref_callP (ref_cons (ref_call (es := []) (fun _ _ => rfl) (ref_cons (ref_var 1) ref_nil)) ref_nil)) (rg_tup (rg_cons (rg_n (rn_name (vs := [8]) (by decide))) (rg_cons (rg_n (rn_name (vs := [9]) (by decide))) rg_nil gNm_ex) gNm_ex))) (rs_seq (rs_par (by decide) (ref_dat (ref_callP (ref_cons (ref_c fun _ _ => rfl) ref_nil))) (ref_dat (ref_ifE (ref_tst (ref_op (ref_var 4) (ref_c fun _ _ => rfl) rr_eq)) (ref_c fun _ _ => rfl) (ref_c fun _ _ => rfl)))) (rs_append (ref_tup (ref_cons (ref_ifE (ref_tst (ref_op (ref_var 10) (ref_c fun _ _ => rfl) rr_eq)) (ref_c fun _ _ => rfl) (ref_var 8)) (ref_cons (ref_ifE (ref_tst (ref_op (ref_var 10) (ref_c fun _ _ => rfl) rr_eq)) (ref_c fun _ _ => rfl) (ref_var 9)) (ref_cons (ref_op (ref_var 11) (ref_callP (ref_cons (ref_c fun _ _ => rfl) ref_nil)) rr_i0) ref_nil)))))))) (rs_append (ref_tup (ref_cons (ref_var 5) (ref_cons (ref_var 6) ref_nil))))))) (rs_ret (ref_callP (ref_cons (ref_var 3) ref_nil)))))
theorem cal_law_book (T : Tp K mg base) : C8.Cal P w K mg base 3 "_law_book" (qSp (gx K) 2 fs_law_book) [] := by
  obtain ⟨fd, F⟩ := T.c.def_ 56 (d := d_law_book) rfl
  exact ⟨_, fd, ps_law_book, [], fn_pot (c := false) F sc_law_book (bd_law_book T) rfl (fun p i j ds DQ po _ h => h p i j po), T.g_law_book, F.kp, F.bindsN (fun _ _ _ _ _ _ us hl => match us, hl with | [_, _, _], _ => rfl), .nil⟩
end
/-! ### _law_many -/
abbrev N_law_many : List Str := ["_law_load", "_law_origin", "_law_target", "_law_row"]
abbrev ps_law_many : List Str := ["_law_load", "_law_origin", "_law_target"]
theorem sc_law_many : FnScope N_law_many ps_law_many (defScope s_law_many) := ⟨rfl, rfl, rfl, by decide +kernel, rfl, by decide +kernel, by decide +kernel⟩
def m_law_many : DTS := (dRet (dCB sumD (dCons (dLc (dItL (dVar 0)) (gNm 3) (dAnd (dTst (dOp inNS (dVar 1) (dTup (dCons (dC .non) (dCons (dOp ixOp (dVar 3) (dC (.int 0))) dNil))))) (dTst (dOp inNS (dVar 2) (dTup (dCons (dC .non) (dCons (dOp ixOp (dVar 3) (dC (.int 1))) dNil)))))) (dOp ixOp (dVar 3) (dC (.int 2))) [3]) dNil)))
def fs_law_many : DSp := fun ds Q => m_law_many (pureE Q) (startD 4 ds)
def t_law_many (K : PySem.W.Frag) (P : Program) (w : World) : TS := (tRet (tCB (rSum K) (tCons (tLc (iList K (tVar 0)) (gName 3) (tAnd (tTest (tOp (rIn K false) (tVar 1) (tTup (tCons (tC .non) (tCons (tOp (rIx K) (tVar 3) (tC (.int 0))) tNil))))) (tTest (tOp (rIn K false) (tVar 2) (tTup (tCons (tC .non) (tCons (tOp (rIx K) (tVar 3) (tC (.int 1))) tNil)))))) (tOp (rIx K) (tVar 3) (tC (.int 2))) [3]) tNil)))
section
variable {P : Program} {w : World} {K : PySem.W.Frag} {mg : Str → Option Value} {base : Heap}
theorem bd_law_many (T : Tp K mg base) {f : Addr} : Body P w K mg base (gx K) N_law_many "_law_many" (defScope s_law_many) f 0 (defBody s_law_many) m_law_many := fun cdv A outer s H E hr => by
  have nd := sc_law_many.nd
  refine ⟨t_law_many K P w, ?_, ?_⟩
  · exact (pss_one (ps_ret (pe_callB (cr_sum rfl) rfl T.f_sum bt_sum (pa_cons (pe_lc (own := [("_law_row", 3)]) (g := (gName 3)) (tt := (tAnd (tTest (tOp (rIn K false) (tVar 1) (tTup (tCons (tC .non) (tCons (tOp (rIx K) (tVar 3) (tC (.int 0))) tNil))))) (tTest (tOp (rIn K false) (tVar 2) (tTup (tCons (tC .non) (tCons (tOp (rIx K) (tVar 3) (tC (.int 1))) tNil))))))) (te := (tOp (rIx K) (tVar 3) (tC (.int 2)))) rfl nd (pi_list (pv 0)) (blkOk_by (N := N_law_many) (sc := defScope s_law_many) (by decide +kernel)) (fun _ _ _ _ _ => (pg_name (i := 3) nd rfl (by first | exact Or.inl rfl | exact Or.inr rfl))) (fun _ _ _ _ _ => (pts_one (PW.pt (pw_and (pt_cmpR op_in_seq (pv 1) (pe_tup (pa_cons pe_non (pa_cons (pe_ix ix_seq (pv 3) pe_int (fun _ _ => rfl)) pa_nil))) (by with_unfolding_all rfl)) (pw_and1 (pt_cmpR op_in_seq (pv 2) (pe_tup (pa_cons pe_non (pa_cons (pe_ix ix_seq (pv 3) pe_int (fun _ _ => rfl)) pa_nil))) (by with_unfolding_all rfl))))))) (fun _ _ _ _ _ => (pe_ix ix_seq (pv 3) pe_int (fun _ _ => rfl)))) pa_nil))))
  · exact (rs_ret (ref_cb (ref_cons (ref_lc (ri_list (ref_var 0)) (rn_name (by decide)) (ref_and (ref_tst (ref_op (ref_var 1) (ref_tup (ref_cons (ref_c fun _ _ => rfl) (ref_cons (ref_op (ref_var 3) (ref_c fun _ _ => rfl) rr_ix) ref_nil))) rr_inNS)) (ref_tst (ref_op (ref_var 2) (ref_tup (ref_cons (ref_c fun _ _ => rfl) (ref_cons (ref_op (ref_var 3) (ref_c fun _ _ => rfl) rr_ix) ref_nil))) rr_inNS))) (ref_op (ref_var 3) (ref_c fun _ _ => rfl) rr_ix)) ref_nil) rc_sum))
theorem cal_law_many (T : Tp K mg base) : C8.Cal P w K mg base 1 "_law_many" (pSp (gx K) 3 fs_law_many) [] := by
  obtain ⟨fd, F⟩ := T.c.def_ 57 (d := d_law_many) rfl
  exact ⟨_, fd, ps_law_many, [], fn_pure F sc_law_many (bd_law_many T) (fun ds DQ _ h => h), T.g_law_many, F.kp, F.bindsN (fun _ _ _ _ _ _ us hl => match us, hl with | [_, _, _], _ => rfl), .nil⟩
end
/-! ### _law_stands -/
abbrev N_law_stands : List Str := ["_law_book_here", "_law_load", "_law_places", "_law_bounds", "_law_bound"]
abbrev ps_law_stands : List Str := ["_law_book_here", "_law_load"]
theorem sc_law_stands : FnScope N_law_stands ps_law_stands (defScope s_law_stands) := ⟨rfl, rfl, rfl, by decide +kernel, rfl, by decide +kernel, by decide +kernel⟩
def m_law_stands : DTS := (dSeq (dFor (dItL (dVar 0)) (gTp (gCn (gNm 2) (gCn (gNm 3) gNl))) (dIf (dAnd (dTst (dOp cLe (dCall fs_law_many [] (dCons (dVar 1) (dCons (dC .non) (dCons (dC .non) dNil)))) (dVar 2))) (dTst (dCB allD (dCons (dLc (dItL (dVar 3)) (gNm 4) dYes (dOp cLe (dCall fs_law_many [] (dCons (dVar 1) (dCons (dOp ixOp (dVar 4) (dC (.int 0))) (dCons (dOp ixOp (dVar 4) (dC (.int 1))) dNil)))) (dOp ixOp (dVar 4) (dC (.int 2)))) [4]) dNil)))) (dRet (dC (.bl true))) dNext)) (dRet (dC (.bl false))))
def fs_law_stands : DSp := fun ds Q => m_law_stands (pureE Q) (startD 5 ds)
def t_law_stands (K : PySem.W.Frag) (P : Program) (w : World) : TS := (tSeq (tFor (iList K (tVar 0)) (gTup K 2 (gCons (gName 2) (gCons (gName 3) gNil))) (tIfS (tAnd (tTest (tOp rLe (tCall (pSp (gx K) 3 fs_law_many) [] E0 (tCons (tVar 1) (tCons (tC .non) (tCons (tC .non) tNil)))) (tVar 2))) (tB (tCB (rAll K) (tCons (tLc (iList K (tVar 3)) (gName 4) tYes (tOp rLe (tCall (pSp (gx K) 3 fs_law_many) [] E0 (tCons (tVar 1) (tCons (tOp (rIx K) (tVar 4) (tC (.int 0))) (tCons (tOp (rIx K) (tVar 4) (tC (.int 1))) tNil)))) (tOp (rIx K) (tVar 4) (tC (.int 2)))) [4]) tNil)))) (tRet (tC (.bl true))) tNext)) (tRet (tC (.bl false))))
section
variable {P : Program} {w : World} {K : PySem.W.Frag} {mg : Str → Option Value} {base : Heap}
theorem bd_law_stands (T : Tp K mg base) {f : Addr} : Body P w K mg base (gx K) N_law_stands "_law_stands" (defScope s_law_stands) f 1 (defBody s_law_stands) m_law_stands := fun cdv A outer s H E hr => by
  have nd := sc_law_stands.nd
  refine ⟨t_law_stands K P w, ?_, ?_⟩
  · exact (pss_cons (ps_for PassesOwn.never rfl (pi_list (pv 0)) (pg_tup rfl (pgs_cons (pg_name (i := 2) nd rfl (by first | exact Or.inl rfl | exact Or.inr rfl)) (pgs_cons (pg_name (i := 3) nd rfl (by first | exact Or.inl rfl | exact Or.inr rfl)) pgs_nil))) (pss_one (ps_if (PW.pt (pw_and (pt_cmpR op_le (C8.pe_c (cal_law_many T) hr (by decide) rfl (pa_cons (pv 1) (pa_cons pe_non (pa_cons pe_non pa_nil)))) (pv 2) (nomark _)) (pw_and1 (pt_val (pe_callB (cr_all rfl) rfl T.f_all bt_all (pa_cons (pe_lc (own := [("_law_bound", 4)]) (g := (gName 4)) (tt := tYes) (te := (tOp rLe (tCall (pSp (gx K) 3 fs_law_many) [] E0 (tCons (tVar 1) (tCons (tOp (rIx K) (tVar 4) (tC (.int 0))) (tCons (tOp (rIx K) (tVar 4) (tC (.int 1))) tNil)))) (tOp (rIx K) (tVar 4) (tC (.int 2))))) rfl nd (pi_list (pv 3)) (blkOk_by (N := N_law_stands) (sc := defScope s_law_stands) (by decide +kernel)) (fun _ _ _ _ _ => (pg_name (i := 4) nd rfl (by first | exact Or.inl rfl | exact Or.inr rfl))) (fun _ _ _ _ _ => pts_nil) (fun _ _ _ _ _ => (pe_cmpR op_le (C8.pe_c (cal_law_many T) hr (by decide) rfl (pa_cons (pv 1) (pa_cons (pe_ix ix_seq (pv 4) pe_int (fun _ _ => rfl)) (pa_cons (pe_ix ix_seq (pv 4) pe_int (fun _ _ => rfl)) pa_nil)))) (pe_ix ix_seq (pv 4) pe_int (fun _ _ => rfl)) (nomark _)))) pa_nil)))))) (pss_one (ps_ret pe_bl)) pss_nil))) (pss_one (ps_ret pe_bl)))
  · exact (rs_seq (rs_for (vs := [2, 3]) (ri_list (ref_var 0)) (rn_tup (rn_cons1 (by decide) (rn_cons1 (by decide) rn_nil))) (rs_if (ref_and (ref_tst (ref_op (ref_call (es := []) (fun _ _ => rfl) (ref_cons (ref_var 1) (ref_cons (ref_c fun _ _ => rfl) (ref_cons (ref_c fun _ _ => rfl) ref_nil)))) (ref_var 2) rr_c)) (ref_tB (ref_cb (ref_cons (ref_lc (ri_list (ref_var 3)) (rn_name (by decide)) rt_yes (ref_op (ref_call (es := []) (fun _ _ => rfl) (ref_cons (ref_var 1) (ref_cons (ref_op (ref_var 4) (ref_c fun _ _ => rfl) rr_ix) (ref_cons (ref_op (ref_var 4) (ref_c fun _ _ => rfl) rr_ix) ref_nil)))) (ref_op (ref_var 4) (ref_c fun _ _ => rfl) rr_ix) rr_c)) ref_nil) rc_all))) (rs_ret (ref_c fun _ _ => rfl)) rs_next)) (rs_ret (ref_c fun _ _ => rfl)))
theorem cal_law_stands (T : Tp K mg base) : C8.Cal P w K mg base 2 "_law_stands" (pSp (gx K) 2 fs_law_stands) [] := by
  obtain ⟨fd, F⟩ := T.c.def_ 58 (d := d_law_stands) rfl
  exact ⟨_, fd, ps_law_stands, [], fn_pure F sc_law_stands (bd_law_stands T) (fun ds DQ _ h => h), T.g_law_stands, F.kp, F.bindsN (fun _ _ _ _ _ _ us hl => match us, hl with | [_, _], _ => rfl), .nil⟩
end
/-! ### _law_more -/
abbrev N_law_more : List Str := ["_law_load", "_law_origin", "_law_target", "_law_found", "_law_row"]
abbrev ps_law_more : List Str := ["_law_load", "_law_origin", "_law_target"]
theorem sc_law_more : FnScope N_law_more ps_law_more (defScope s_law_more) := ⟨rfl, rfl, rfl, by decide +kernel, rfl, by decide +kernel, by decide +kernel⟩
def m_law_more : DTS := (dSeq (dSet 3 (dDat (dLc (dItL (dVar 0)) (gNm 4) (dTst (dOp neOp (dSlT (dVar 4) dNoP (dPart (dC (.int 2)))) (dTup (dCons (dVar 1) (dCons (dVar 2) dNil))))) (dVar 4) [4]))) (dRet (dCB sortedD (dCons (dOp catOp (dVar 3) (dLst (dCons (dTup (dCons (dVar 1) (dCons (dVar 2) (dCons (dOp iAdd (dC (.int 1)) (dCall fs_law_many [] (dCons (dVar 0) (dCons (dVar 1) (dCons (dVar 2) dNil))))) dNil)))) dNil))) dNil))))
def fs_law_more : DSp := fun ds Q => m_law_more (pureE Q) (startD 5 ds)
def t_law_more (K : PySem.W.Frag) (P : Program) (w : World) : TS := (tSeq (tAsg (tLc (iList K (tVar 0)) (gName 4) (tTest (tOp (rNeD K) (tSl (rSlT K) (tVar 4) tNoPart (tPart (tC (.int 2)))) (tTup (tCons (tVar 1) (tCons (tVar 2) tNil))))) (tVar 4) [4]) (gName 3)) (tRet (tCB (rSortedD K) (tCons (tOp rCat (tVar 3) (tLst (tCons (tTup (tCons (tVar 1) (tCons (tVar 2) (tCons (tOp rAdd (tC (.int 1)) (tCall (pSp (gx K) 3 fs_law_many) [] E0 (tCons (tVar 0) (tCons (tVar 1) (tCons (tVar 2) tNil))))) tNil)))) tNil))) tNil))))
section
variable {P : Program} {w : World} {K : PySem.W.Frag} {mg : Str → Option Value} {base : Heap}
theorem bd_law_more (T : Tp K mg base) {f : Addr} : Body P w K mg base (gx K) N_law_more "_law_more" (defScope s_law_more) f 1 (defBody s_law_more) m_law_more := fun cdv A outer s H E hr => by
  have nd := sc_law_more.nd
  refine ⟨t_law_more K P w, ?_, ?_⟩
  · exact (pss_cons (ps_setLc (i := 3) (own := [("_law_row", 4)]) (g := (gName 4)) (tt := (tTest (tOp (rNeD K) (tSl (rSlT K) (tVar 4) tNoPart (tPart (tC (.int 2)))) (tTup (tCons (tVar 1) (tCons (tVar 2) tNil)))))) (te := (tVar 4)) rfl nd rfl rfl (sw_true rfl rfl rfl (by decide +kernel)) (pi_list (pv 0)) (blkOk_by (N := N_law_more) (sc := defScope s_law_more) (by decide +kernel)) (fun _ _ _ _ _ => (pg_name (i := 4) nd rfl (by first | exact Or.inl rfl | exact Or.inr rfl))) (fun _ _ _ _ _ => (pts_one (pt_cmpR (op_neD (hu4 hr)) (pe_slice sl_tup (pv 4) po_none (po_some pe_int)) (pe_tup (pa_cons (pv 1) (pa_cons (pv 2) pa_nil))) (nomark _)))) (fun _ _ _ _ _ => (pv 4))) (pss_one (ps_ret (pe_callB (cr_sortedD (hu4 hr)) rfl T.f_sorted bt_sorted (pa_cons (pe_op op_cat (pv 3) (pe_lst (pa_cons (pe_tup (pa_cons (pv 1) (pa_cons (pv 2) (pa_cons (pe_op op_add pe_int (C8.pe_c (cal_law_many T) hr (by decide) rfl (pa_cons (pv 0) (pa_cons (pv 1) (pa_cons (pv 2) pa_nil))))) pa_nil)))) pa_nil))) pa_nil)))))
  · exact (rs_seq (rs_set (ref_dat (ref_lc (ri_list (ref_var 0)) (rn_name (by decide)) (ref_tst (ref_op (ref_slT (ref_var 4) ref_noP (ref_part (ref_c fun _ _ => rfl))) (ref_tup (ref_cons (ref_var 1) (ref_cons (ref_var 2) ref_nil))) rr_ne)) (ref_var 4)))) (rs_ret (ref_cb (ref_cons (ref_op (ref_var 3) (ref_lst (ref_cons (ref_tup (ref_cons (ref_var 1) (ref_cons (ref_var 2) (ref_cons (ref_op (ref_c fun _ _ => rfl) (ref_call (es := []) (fun _ _ => rfl) (ref_cons (ref_var 0) (ref_cons (ref_var 1) (ref_cons (ref_var 2) ref_nil)))) rr_i0) ref_nil)))) ref_nil)) rr_cat) ref_nil) rc_sorted)))
theorem cal_law_more (T : Tp K mg base) : C8.Cal P w K mg base 2 "_law_more" (pSp (gx K) 3 fs_law_more) [] := by
  obtain ⟨fd, F⟩ := T.c.def_ 59 (d := d_law_more) rfl
  exact ⟨_, fd, ps_law_more, [], fn_pure F sc_law_more (bd_law_more T) (fun ds DQ _ h => h), T.g_law_more, F.kp, F.bindsN (fun _ _ _ _ _ _ us hl => match us, hl with | [_, _, _], _ => rfl), .nil⟩
end
/-! ### _law_standing -/
abbrev N_law_standing : List Str := ["_law_book_here", "_law_pairs_here", "_law_found", "_law_left", "_law_load", "_law_first", "_law_at", "_law_more_here"]
abbrev ps_law_standing : List Str := ["_law_book_here", "_law_pairs_here"]
theorem sc_law_standing : FnScope N_law_standing ps_law_standing (defScope s_law_standing) := ⟨rfl, rfl, rfl, by decide +kernel, rfl, by decide +kernel, by decide +kernel⟩
def m_law_standing : DTS := (dSeq (dPar 2 3 (dOwnL dNil) (dOwnL (dCons (dTup (dCons (dLst dNil) (dCons (dC (.int 0)) dNil))) dNil))) (dSeq (dWhile (dTst (dNilO 3)) (dSeq (dAsg (dPop 3) (gTp (gCn (gNm 4) (gCn (gNm 5) gNl)))) (dSeq (dAppend 2 (dVar 4)) (dFor (dRg2 (dCons (dVar 5) (dCons (dCB lenD (dCons (dVar 1) dNil)) dNil))) (gNm 6) (dSeq (dSet 7 (dDat (dCall fs_law_more [] (dCons (dVar 4) (dCons (dOp ixOp (dOp ixOp (dVar 1) (dVar 6)) (dC (.int 0))) (dCons (dOp ixOp (dOp ixOp (dVar 1) (dVar 6)) (dC (.int 1))) dNil)))))) (dIf (dTst (dCall fs_law_stands [] (dCons (dVar 0) (dCons (dVar 7) dNil)))) (dAppend 3 (dTup (dCons (dVar 7) (dCons (dVar 6) dNil)))) dNext)))))) (dRet (dVar 2))))
def fs_law_standing : DSp := fun ds Q => m_law_standing (pureE Q) (startD 8 ds)
def t_law_standing (K : PySem.W.Frag) (P : Program) (w : World) : TS := (tSeq (tPar 2 3 (tCons (tLst tNil) (tCons (tLst (tCons (tTup (tCons (tLst tNil) (tCons (tC (.int 0)) tNil))) tNil)) tNil))) (tSeq (tWhile (tTest (tOp (rNeD K) (tVar 3) (tLst tNil))) (tSeq (tAsg (tBM0 K "list" rPop (tVar 3)) (gTup K 2 (gCons (gName 4) (gCons (gName 5) gNil)))) (tSeq (tDrop (tBM K "list" rAppend (tVar 2) (tCons (tVar 4) tNil))) (tFor (iRng2 (tCons (tVar 5) (tCons (tCB (rLen2 K) (tCons (tVar 1) tNil)) tNil))) (gName 6) (tSeq (tAsg (tCall (pSp (gx K) 3 fs_law_more) [] E0 (tCons (tVar 4) (tCons (tOp (rIx K) (tOp (rIx K) (tVar 1) (tVar 6)) (tC (.int 0))) (tCons (tOp (rIx K) (tOp (rIx K) (tVar 1) (tVar 6)) (tC (.int 1))) tNil)))) (gName 7)) (tIfS (tB (tCall (pSp (gx K) 2 fs_law_stands) [] E0 (tCons (tVar 0) (tCons (tVar 7) tNil)))) (tDrop (tBM K "list" rAppend (tVar 3) (tCons (tTup (tCons (tVar 7) (tCons (tVar 6) tNil))) tNil))) tNext)))))) (tRet (tVar 2))))
section
variable {P : Program} {w : World} {K : PySem.W.Frag} {mg : Str → Option Value} {base : Heap}
theorem bd_law_standing (T : Tp K mg base) {f : Addr} : Body P w K mg base (gx K) N_law_standing "_law_standing" (defScope s_law_standing) f 2 (defBody s_law_standing) m_law_standing := fun cdv A outer s H E hr => by
  have nd := sc_law_standing.nd
  refine ⟨t_law_standing K P w, ?_, ?_⟩
  · exact (pss_cons (ps_par (i := 2) (j := 3) rfl nd rfl rfl (by decide) rfl rfl (pa_cons (pe_lst pa_nil) (pa_cons (pe_lst (pa_cons (pe_tup (pa_cons (pe_lst pa_nil) (pa_cons pe_int pa_nil))) pa_nil)) pa_nil)) rfl) (pss_cons (ps_while PassesOwn.never (pt_cmpR (op_neD (hu4 hr)) (pv 3) (pe_lst pa_nil) (nomark _)) (pss_cons (ps_asg (pe_bm0 PySem.F.plainAttrs_list PySem.F.slot_list_pop PySem.F.type_list_pop mt_pop (pv 3)) (pg_tup rfl (pgs_cons (pg_name (i := 4) nd rfl (Or.inl rfl)) (pgs_cons (pg_name (i := 5) nd rfl (Or.inl rfl)) pgs_nil)))) (pss_cons (ps_expr (pe_bm PySem.F.plainAttrs_list PySem.F.slot_list_append PySem.F.type_list_append mt_append (pv 2) (pa_cons (pv 4) pa_nil))) (pss_one (ps_for PassesOwn.never rfl (pi_range2 rfl T.f_range (pa_cons (pv 5) (pa_cons (pe_callB cl_len rfl T.f_len bt_len (pa_cons (pv 1) pa_nil)) pa_nil))) (pg_name (i := 6) nd rfl (by first | exact Or.inl rfl | exact Or.inr rfl)) (pss_cons (ps_set (i := 7) nd rfl (Or.inl rfl) (C8.pe_c (cal_law_more T) hr (by decide) rfl (pa_cons (pv 4) (pa_cons (pe_ix ix_seq (pe_ix ix_seq (pv 1) (pv 6) (fun _ _ => rfl)) pe_int (fun _ _ => rfl)) (pa_cons (pe_ix ix_seq (pe_ix ix_seq (pv 1) (pv 6) (fun _ _ => rfl)) pe_int (fun _ _ => rfl)) pa_nil))))) (pss_one (ps_if (pt_val (C8.pe_c (cal_law_stands T) hr (by decide) rfl (pa_cons (pv 0) (pa_cons (pv 7) pa_nil)))) (pss_one (ps_expr (pe_bm PySem.F.plainAttrs_list PySem.F.slot_list_append PySem.F.type_list_append mt_append (pv 3) (pa_cons (pe_tup (pa_cons (pv 7) (pa_cons (pv 6) pa_nil))) pa_nil)))) pss_nil)))))))) (pss_one (ps_ret (pv 2)))))
  · exact (rs_seq (rs_par (by decide) (ref_ownL ref_nil) (ref_ownL (ref_cons (ref_tup (ref_cons (ref_lst ref_nil) (ref_cons (ref_c fun _ _ => rfl) ref_nil))) ref_nil))) (rs_seq (rs_while (ref_tst ref_nilO) (rs_seq (rs_asg ref_pop (rg_tup (rg_cons (rg_n (rn_name (vs := [4]) (by decide))) (rg_cons (rg_n (rn_name (vs := [5]) (by decide))) rg_nil gNm_ex) gNm_ex))) (rs_seq (rs_append (ref_var 4)) (rs_for (vs := [6]) (ri_rg2 (ref_cons (ref_var 5) (ref_cons (ref_cb (ref_cons (ref_var 1) ref_nil) rc_len) ref_nil))) (rn_name (by decide)) (rs_seq (rs_set (ref_dat (ref_call (es := []) (fun _ _ => rfl) (ref_cons (ref_var 4) (ref_cons (ref_op (ref_op (ref_var 1) (ref_var 6) rr_ix) (ref_c fun _ _ => rfl) rr_ix) (ref_cons (ref_op (ref_op (ref_var 1) (ref_var 6) rr_ix) (ref_c fun _ _ => rfl) rr_ix) ref_nil)))))) (rs_if (ref_tB (ref_call (es := []) (fun _ _ => rfl) (ref_cons (ref_var 0) (ref_cons (ref_var 7) ref_nil)))) (rs_append (ref_tup (ref_cons (ref_var 7) (ref_cons (ref_var 6) ref_nil)))) rs_next)))))) (rs_ret (ref_var 2))))
theorem cal_law_standing (T : Tp K mg base) : C8.Cal P w K mg base 3 "_law_standing" (pSp (gx K) 2 fs_law_standing) [] := by
  obtain ⟨fd, F⟩ := T.c.def_ 60 (d := d_law_standing) rfl
  exact ⟨_, fd, ps_law_standing, [], fn_pure F sc_law_standing (bd_law_standing T) (fun ds DQ _ h => h), T.g_law_standing, F.kp, F.bindsN (fun _ _ _ _ _ _ us hl => match us, hl with | [_, _], _ => rfl), .nil⟩
end
/-! ### _law_towards -/
abbrev N_law_towards : List Str := ["_law_book_here", "_law_near", "_law_target", "_law_pairs_here", "_law_pair", "_law_load"]
abbrev ps_law_towards : List Str := ["_law_book_here", "_law_near", "_law_target"]
theorem sc_law_towards : FnScope N_law_towards ps_law_towards (defScope s_law_towards) := ⟨rfl, rfl, rfl, by decide +kernel, rfl, by decide +kernel, by decide +kernel⟩
def m_law_towards : DTS := (dSeq (dSet 3 (dDat (dLc (dItL (dCall fs_law_pairs [] (dCons (dVar 1) dNil))) (gNm 4) (dTst (dOp eqOp (dOp ixOp (dVar 4) (dC (.int 1))) (dVar 2))) (dVar 4) [4]))) (dRet (dCB sortedD (dCons (dLc (dItL (dCall fs_law_standing [] (dCons (dVar 0) (dCons (dVar 3) dNil)))) (gNm 5) (dTst (dOp neOp (dVar 5) (dLst dNil))) (dVar 5) [5]) dNil))))
def fs_law_towards : DSp := fun ds Q => m_law_towards (pureE Q) (startD 6 ds)
def t_law_towards (K : PySem.W.Frag) (P : Program) (w : World) : TS := (tSeq (tAsg (tLc (iList K (tCall (pSp (gx K) 1 fs_law_pairs) [] E0 (tCons (tVar 1) tNil))) (gName 4) (tTest (tOp (rEqD K) (tOp (rIx K) (tVar 4) (tC (.int 1))) (tVar 2))) (tVar 4) [4]) (gName 3)) (tRet (tCB (rSortedD K) (tCons (tLc (iList K (tCall (pSp (gx K) 2 fs_law_standing) [] E0 (tCons (tVar 0) (tCons (tVar 3) tNil)))) (gName 5) (tTest (tOp (rNeD K) (tVar 5) (tLst tNil))) (tVar 5) [5]) tNil))))
section
variable {P : Program} {w : World} {K : PySem.W.Frag} {mg : Str → Option Value} {base : Heap}
theorem bd_law_towards (T : Tp K mg base) {f : Addr} : Body P w K mg base (gx K) N_law_towards "_law_towards" (defScope s_law_towards) f 3 (defBody s_law_towards) m_law_towards := fun cdv A outer s H E hr => by
  have nd := sc_law_towards.nd
  refine ⟨t_law_towards K P w, ?_, ?_⟩
  · exact (pss_cons (ps_setLc (i := 3) (own := [("_law_pair", 4)]) (g := (gName 4)) (tt := (tTest (tOp (rEqD K) (tOp (rIx K) (tVar 4) (tC (.int 1))) (tVar 2)))) (te := (tVar 4)) rfl nd rfl rfl (sw_true rfl rfl rfl (by decide +kernel)) (pi_list (C8.pe_c (cal_law_pairs T) hr (by decide) rfl (pa_cons (pv 1) pa_nil))) (blkOk_by (N := N_law_towards) (sc := defScope s_law_towards) (by decide +kernel)) (fun _ _ _ _ _ => (pg_name (i := 4) nd rfl (by first | exact Or.inl rfl | exact Or.inr rfl))) (fun _ _ _ _ _ => (pts_one (pt_cmpR (op_eqD (hu4 hr)) (pe_ix ix_seq (pv 4) pe_int (fun _ _ => rfl)) (pv 2) (nomark _)))) (fun _ _ _ _ _ => (pv 4))) (pss_one (ps_ret (pe_callB (cr_sortedD (hu4 hr)) rfl T.f_sorted bt_sorted (pa_cons (pe_lc (own := [("_law_load", 5)]) (g := (gName 5)) (tt := (tTest (tOp (rNeD K) (tVar 5) (tLst tNil)))) (te := (tVar 5)) rfl nd (pi_list (C8.pe_c (cal_law_standing T) hr (by decide) rfl (pa_cons (pv 0) (pa_cons (pv 3) pa_nil)))) (blkOk_by (N := N_law_towards) (sc := defScope s_law_towards) (by decide +kernel)) (fun _ _ _ _ _ => (pg_name (i := 5) nd rfl (by first | exact Or.inl rfl | exact Or.inr rfl))) (fun _ _ _ _ _ => (pts_one (pt_cmpR (op_neD (hu4 hr)) (pv 5) (pe_lst pa_nil) (nomark _)))) (fun _ _ _ _ _ => (pv 5))) pa_nil)))))
  · exact (rs_seq (rs_set (ref_dat (ref_lc (ri_list (ref_call (es := []) (fun _ _ => rfl) (ref_cons (ref_var 1) ref_nil))) (rn_name (by decide)) (ref_tst (ref_op (ref_op (ref_var 4) (ref_c fun _ _ => rfl) rr_ix) (ref_var 2) rr_eq)) (ref_var 4)))) (rs_ret (ref_cb (ref_cons (ref_lc (ri_list (ref_call (es := []) (fun _ _ => rfl) (ref_cons (ref_var 0) (ref_cons (ref_var 3) ref_nil)))) (rn_name (by decide)) (ref_tst (ref_op (ref_var 5) (ref_lst ref_nil) rr_ne)) (ref_var 5)) ref_nil) rc_sorted)))
theorem cal_law_towards (T : Tp K mg base) : C8.Cal P w K mg base 4 "_law_towards" (pSp (gx K) 3 fs_law_towards) [] := by
  obtain ⟨fd, F⟩ := T.c.def_ 61 (d := d_law_towards) rfl
  exact ⟨_, fd, ps_law_towards, [], fn_pure F sc_law_towards (bd_law_towards T) (fun ds DQ _ h => h), T.g_law_towards, F.kp, F.bindsN (fun _ _ _ _ _ _ us hl => match us, hl with | [_, _, _], _ => rfl), .nil⟩
end
/-! ### _law_heaviest -/
abbrev N_law_heaviest : List Str := ["_law_book_here", "_law_near", "_law_target", "_law_found", "_law_load", "_law_more_here", "_law_origin"]
abbrev ps_law_heaviest : List Str := ["_law_book_here", "_law_near", "_law_target"]
theorem sc_law_heaviest : FnScope N_law_heaviest ps_law_heaviest (defScope s_law_heaviest) := ⟨rfl, rfl, rfl, by decide +kernel, rfl, by decide +kernel, by decide +kernel⟩
def m_law_heaviest : DTS := (dSeq (dSet 3 (dOwnL dNil)) (dSeq (dFor (dItL (dCall fs_law_towards [] (dCons (dVar 0) (dCons (dVar 1) (dCons (dVar 2) dNil))))) (gNm 4) (dSeq (dSet 5 (dDat (dLc (dItL (dVar 1)) (gNm 6) (dTst (dOp neOp (dVar 6) (dVar 2))) (dCall fs_law_stands [] (dCons (dVar 0) (dCons (dCall fs_law_more [] (dCons (dVar 4) (dCons (dVar 6) (dCons (dVar 2) dNil)))) dNil))) [6]))) (dIf (dNot (dTst (dCB anyD (dCons (dVar 5) dNil)))) (dAppend 3 (dVar 4)) dNext))) (dRet (dVar 3))))
def fs_law_heaviest : DSp := fun ds Q => m_law_heaviest (pureE Q) (startD 7 ds)
def t_law_heaviest (K : PySem.W.Frag) (P : Program) (w : World) : TS := (tSeq (tAsg (tLst tNil) (gName 3)) (tSeq (tFor (iList K (tCall (pSp (gx K) 3 fs_law_towards) [] E0 (tCons (tVar 0) (tCons (tVar 1) (tCons (tVar 2) tNil))))) (gName 4) (tSeq (tAsg (tLc (iList K (tVar 1)) (gName 6) (tTest (tOp (rNeD K) (tVar 6) (tVar 2))) (tCall (pSp (gx K) 2 fs_law_stands) [] E0 (tCons (tVar 0) (tCons (tCall (pSp (gx K) 3 fs_law_more) [] E0 (tCons (tVar 4) (tCons (tVar 6) (tCons (tVar 2) tNil)))) tNil))) [6]) (gName 5)) (tIfS (tNot (tB (tCB (rAny K) (tCons (tVar 5) tNil)))) (tDrop (tBM K "list" rAppend (tVar 3) (tCons (tVar 4) tNil))) tNext))) (tRet (tVar 3))))
section
variable {P : Program} {w : World} {K : PySem.W.Frag} {mg : Str → Option Value} {base : Heap}
theorem bd_law_heaviest (T : Tp K mg base) {f : Addr} : Body P w K mg base (gx K) N_law_heaviest "_law_heaviest" (defScope s_law_heaviest) f 4 (defBody s_law_heaviest) m_law_heaviest := fun cdv A outer s H E hr => by
  have nd := sc_law_heaviest.nd
  refine ⟨t_law_heaviest K P w, ?_, ?_⟩
  · exact (pss_cons (ps_set (i := 3) nd rfl (Or.inl rfl) (pe_lst pa_nil)) (pss_cons (ps_for PassesOwn.never rfl (pi_list (C8.pe_c (cal_law_towards T) hr (by decide) rfl (pa_cons (pv 0) (pa_cons (pv 1) (pa_cons (pv 2) pa_nil))))) (pg_name (i := 4) nd rfl (by first | exact Or.inl rfl | exact Or.inr rfl)) (pss_cons (ps_setLc (i := 5) (own := [("_law_origin", 6)]) (g := (gName 6)) (tt := (tTest (tOp (rNeD K) (tVar 6) (tVar 2)))) (te := (tCall (pSp (gx K) 2 fs_law_stands) [] E0 (tCons (tVar 0) (tCons (tCall (pSp (gx K) 3 fs_law_more) [] E0 (tCons (tVar 4) (tCons (tVar 6) (tCons (tVar 2) tNil)))) tNil)))) rfl nd rfl rfl (sw_true rfl rfl rfl (by decide +kernel)) (pi_list (pv 1)) (blkOk_by (N := N_law_heaviest) (sc := defScope s_law_heaviest) (by decide +kernel)) (fun _ _ _ _ _ => (pg_name (i := 6) nd rfl (by first | exact Or.inl rfl | exact Or.inr rfl))) (fun _ _ _ _ _ => (pts_one (pt_cmpR (op_neD (hu4 hr)) (pv 6) (pv 2) (nomark _)))) (fun _ _ _ _ _ => (C8.pe_c (cal_law_stands T) hr (by decide) rfl (pa_cons (pv 0) (pa_cons (C8.pe_c (cal_law_more T) hr (by decide) rfl (pa_cons (pv 4) (pa_cons (pv 6) (pa_cons (pv 2) pa_nil)))) pa_nil))))) (pss_one (ps_if (pt_not (pt_val (pe_callB (cr_any rfl) rfl T.f_any bt_any (pa_cons (pv 5) pa_nil)))) (pss_one (ps_expr (pe_bm PySem.F.plainAttrs_list PySem.F.slot_list_append PySem.F.type_list_append mt_append (pv 3) (pa_cons (pv 4) pa_nil)))) pss_nil)))) (pss_one (ps_ret (pv 3)))))
  · exact (rs_seq (rs_set (ref_ownL ref_nil)) (rs_seq (rs_for (vs := [4]) (ri_list (ref_call (es := []) (fun _ _ => rfl) (ref_cons (ref_var 0) (ref_cons (ref_var 1) (ref_cons (ref_var 2) ref_nil))))) (rn_name (by decide)) (rs_seq (rs_set (ref_dat (ref_lc (ri_list (ref_var 1)) (rn_name (by decide)) (ref_tst (ref_op (ref_var 6) (ref_var 2) rr_ne)) (ref_call (es := []) (fun _ _ => rfl) (ref_cons (ref_var 0) (ref_cons (ref_call (es := []) (fun _ _ => rfl) (ref_cons (ref_var 4) (ref_cons (ref_var 6) (ref_cons (ref_var 2) ref_nil)))) ref_nil)))))) (rs_if (ref_not (ref_tB (ref_cb (ref_cons (ref_var 5) ref_nil) rc_any))) (rs_append (ref_var 4)) rs_next))) (rs_ret (ref_var 3))))
theorem cal_law_heaviest (T : Tp K mg base) : C8.Cal P w K mg base 5 "_law_heaviest" (pSp (gx K) 3 fs_law_heaviest) [] := by
  obtain ⟨fd, F⟩ := T.c.def_ 62 (d := d_law_heaviest) rfl
  exact ⟨_, fd, ps_law_heaviest, [], fn_pure F sc_law_heaviest (bd_law_heaviest T) (fun ds DQ _ h => h), T.g_law_heaviest, F.kp, F.bindsN (fun _ _ _ _ _ _ us hl => match us, hl with | [_, _, _], _ => rfl), .nil⟩
end
end K26
set_option Elab.async false
set_option linter.all false
set_option maxRecDepth 100000
set_option maxHeartbeats 1000000
namespace K26
open PySem PySem.Spec PyProof.Rows L2

/-! ### _law_right: 10 -/
abbrev N_law_right : List Str := ["_law_pot_here", "_law_lanes_here", "_law_country", "_law_yards_here", "_law_books", "_law_yard", "_law_web", "_law_at", "_law_book_here", "_law_near", "_law_met", "_law_target", "_law_due", "_law_heavy", "_law_found", "_law_told", "_law_load", "_law_above", "_law_other", "_law_row"]
abbrev ps_law_right : List Str := ["_law_pot_here"]
theorem sc_law_right : FnScope N_law_right ps_law_right (defScope s_law_right) := ⟨rfl, rfl, rfl, by decide +kernel, rfl, by decide +kernel, by decide +kernel⟩
def m_pre : DTS := (dSeq (dPar 14 15 (dDat (dCall fs_loads_towards [] (dCons (dVar 6) (dCons (dVar 5) (dCons (dVar 11) dNil))))) (dDat (dCallW fs_heaviest (dCons (dVar 11) (dCons (dVar 5) (dCons (dVar 6) dNil)))))) (dSeq (dIf (dOr (dTst (dOp neS (dCB reprD (dCons (dVar 14) dNil)) (dCB reprD (dCons (dVar 12) dNil)))) (dOr (dTst (dOp neS (dCB reprD (dCons (dVar 15) dNil)) (dCB reprD (dCons (dVar 13) dNil)))) (dTst (dOp neOp (dCall fs_heaviest [] (dCons (dVar 6) (dCons (dVar 5) (dCons (dVar 11) dNil)))) (dVar 15))))) (dRet (dC (.bl false))) dNext) (dFor (dItL (dVar 14)) (gNm 16) (dSeq (dIf (dOr (dTst (dOp nbOp (dCall fs_lets [] (dCons (dVar 6) (dCons (dVar 5) (dCons (dOld (dVar 16)) dNil)))) (dC (.bl true)))) (dTst (dOp inOp (dVar 16) (dVar 10)))) (dRet (dC (.bl false))) dNext) (dSeq (dSet 17 (dDat (dLc (dItL (dVar 15)) (gNm 18) (dTst (dCB allD (dCons (dLc (dItL (dVar 16)) (gNm 19) dYes (dOp cLe (dOp ixOp (dVar 19) (dC (.int 2))) (dCall fs_law_many [] (dCons (dVar 18) (dCons (dOp ixOp (dVar 19) (dC (.int 0))) (dCons (dOp ixOp (dVar 19) (dC (.int 1))) dNil))))) [19]) dNil))) (dVar 18) [18]))) (dIf (dOr (dTst (dOp eqOp (dVar 17) (dLst dNil))) (dTst (dOp nbOp (dCall fs_is_at_most [] (dCons (dVar 2) (dCons (dVar 5) (dCons (dOld (dVar 16)) (dCons (dOld (dOp ixOp (dVar 17) (dC (.int 0)))) dNil))))) (dC (.bl true))))) (dRet (dC (.bl false))) dNext))))))
def m_mt : DTS := (dSet 10 (dDat (dOp catOp (dVar 10) (dVar 12))))
def m_post : DTS := (dIf (dTst (dOp neOp (dCallW fs_loads_towards (dCons (dVar 11) (dCons (dVar 5) (dCons (dVar 6) dNil)))) (dVar 12))) (dRet (dC (.bl false))) dNext)
def m_turn : DTS := (dSeq (dPar 12 13 (dDat (dCall fs_law_towards [] (dCons (dVar 8) (dCons (dVar 9) (dCons (dVar 11) dNil))))) (dDat (dCall fs_law_heaviest [] (dCons (dVar 8) (dCons (dVar 9) (dCons (dVar 11) dNil)))))) (dTurn [14, 15, 16, 17] 14 15 m_pre m_mt m_post))
def m_law_right : DTS := (dSeq (dSet 1 (dDat (dCallP 0 fs_law_renumbered (dCons (dCallP 0 fs_law_lanes (dCons (dOp iAdd (dC (.int 1)) (dCallP 0 fs_law_draw (dCons (dC (.int 3)) dNil))) dNil)) dNil)))) (dSeq (dPar3 2 3 4 (dMake 0 fs_Country_init (dCons (dVar 1) dNil)) (dCall fs_law_yards [] (dCons (dVar 1) dNil)) (dOwnL dNil)) (dSeq (dFor (dItL (dVar 3)) (gNm 5) (dAppend 4 (dCallP 0 fs_law_book (dCons (dCall fs_law_beside [] (dCons (dVar 1) (dCons (dVar 5) dNil))) (dCons (dOp ixOp (dLst (dCons (dC (.int 4)) (dCons (dC (.int 3)) (dCons (dC (.int 2)) dNil)))) (dOp iSub (dCB lenD (dCons (dCall fs_law_beside [] (dCons (dVar 1) (dCons (dVar 5) dNil))) dNil)) (dC (.int 2)))) dNil))))) (dSeq (dPar 6 7 (dDat (dMake 1 fs_Web_init (dCons (dVar 2) (dCons (dVar 4) dNil)))) (dDat (dCallP 0 fs_law_draw (dCons (dCB lenD (dCons (dVar 3) dNil)) dNil)))) (dSeq (dAsg (dTup (dCons (dOp ixOp (dVar 3) (dVar 7)) (dCons (dOp ixOp (dVar 4) (dVar 7)) (dCons (dCall fs_law_beside [] (dCons (dVar 1) (dCons (dOp ixOp (dVar 3) (dVar 7)) dNil))) (dCons (dLst dNil) dNil))))) (gTp (gCn (gNm 5) (gCn (gNm 8) (gCn (gNm 9) (gCn (gNm 10) gNl)))))) (dSeq (dFor (dItL (dVar 9)) (gNm 11) m_turn) (dRet (dC (.bl true)))))))))
def fs_law_right : DSp := fun ds Q => ∀ p i j, PotOk i j → m_law_right (potE p Q) (startP p (potN false i j) 20 ds)
section
variable {P : Program} {w : World} {K : PySem.W.Frag} {mg : Str → Option Value} {base : Heap}
theorem r_pre (T : Tp K mg base) : RefW (gx K) [14, 15, 16, 17] (tSeq (tPar 14 15 (tCons (tCall (pSp (gx K) 3 fs_loads_towards) [] E0 (tCons (tVar 6) (tCons (tVar 5) (tCons (tVar 11) tNil)))) (tCons (tCallW (pSp (gx K) 3 fs_heaviest) (tCons (tVar 11) (tCons (tVar 5) (tCons (tVar 6) tNil)))) tNil))) (tSeq (tIfS (tOr (tTest (tOp rNe (tCB (rRepr K) (tCons (tVar 14) tNil)) (tCB (rRepr K) (tCons (tVar 12) tNil)))) (tOr (tTest (tOp rNe (tCB (rRepr K) (tCons (tVar 15) tNil)) (tCB (rRepr K) (tCons (tVar 13) tNil)))) (tTest (tOp (rNeD K) (tCall (pSp (gx K) 3 fs_heaviest) [] E0 (tCons (tVar 6) (tCons (tVar 5) (tCons (tVar 11) tNil)))) (tVar 15))))) (tRet (tC (.bl false))) tNext) (tFor (iList K (tVar 14)) (gName 16) (tSeq (tIfS (tOr (tTest (tOp rNotB (tCall (pSp (gx K) 3 fs_lets) [] E0 (tCons (tVar 6) (tCons (tVar 5) (tCons (tVar 16) tNil)))) (tC (.bl true)))) (tTest (tOp (rInD K) (tVar 16) (tVar 10)))) (tRet (tC (.bl false))) tNext) (tSeq (tAsg (tLc (iList K (tVar 15)) (gName 18) (tB (tCB (rAll K) (tCons (tLc (iList K (tVar 16)) (gName 19) tYes (tOp rLe (tOp (rIx K) (tVar 19) (tC (.int 2))) (tCall (pSp (gx K) 3 fs_law_many) [] E0 (tCons (tVar 18) (tCons (tOp (rIx K) (tVar 19) (tC (.int 0))) (tCons (tOp (rIx K) (tVar 19) (tC (.int 1))) tNil))))) [19]) tNil))) (tVar 18) [18]) (gName 17)) (tIfS (tOr (tTest (tOp (rEqD K) (tVar 17) (tLst tNil))) (tTest (tOp rNotB (tCall (pSp (gx K) 4 fs_is_at_most) [] E0 (tCons (tVar 2) (tCons (tVar 5) (tCons (tVar 16) (tCons (tOp (rIx K) (tVar 17) (tC (.int 0))) tNil))))) (tC (.bl true))))) (tRet (tC (.bl false))) tNext)))))) m_pre := (rw_seq (rw_par (by decide) (by decide) (by decide) (ref_dat (ref_call (es := []) (fun _ _ => rfl) (ref_cons (ref_var 6) (ref_cons (ref_var 5) (ref_cons (ref_var 11) ref_nil))))) (ref_dat (ref_callW (ref_cons (ref_var 11) (ref_cons (ref_var 5) (ref_cons (ref_var 6) ref_nil)))))) (rw_seq (rw_if (ref_or (ref_tst (ref_op (ref_cb (ref_cons (ref_var 14) ref_nil) rc_repr) (ref_cb (ref_cons (ref_var 12) ref_nil) rc_repr) rr_neS)) (ref_or (ref_tst (ref_op (ref_cb (ref_cons (ref_var 15) ref_nil) rc_repr) (ref_cb (ref_cons (ref_var 13) ref_nil) rc_repr) rr_neS)) (ref_tst (ref_op (ref_call (es := []) (fun _ _ => rfl) (ref_cons (ref_var 6) (ref_cons (ref_var 5) (ref_cons (ref_var 11) ref_nil)))) (ref_var 15) rr_ne)))) (rw_ret (ref_c fun _ _ => rfl)) rw_next) (rw_for (vs := [16]) (by decide) (ri_list (ref_var 14)) (rn_name (by decide)) (rw_seq (rw_if (ref_or (ref_tst (ref_op (ref_call (es := []) (fun _ _ => rfl) (ref_cons (ref_var 6) (ref_cons (ref_var 5) (ref_cons (ref_old (ref_var 16)) ref_nil)))) (ref_c fun _ _ => rfl) rr_nb)) (ref_tst (ref_op (ref_var 16) (ref_var 10) rr_in))) (rw_ret (ref_c fun _ _ => rfl)) rw_next) (rw_seq (rw_set (by decide) (ref_dat (ref_lc (ri_list (ref_var 15)) (rn_name (by decide)) (ref_tB (ref_cb (ref_cons (ref_lc (ri_list (ref_var 16)) (rn_name (by decide)) rt_yes (ref_op (ref_op (ref_var 19) (ref_c fun _ _ => rfl) rr_ix) (ref_call (es := []) (fun _ _ => rfl) (ref_cons (ref_var 18) (ref_cons (ref_op (ref_var 19) (ref_c fun _ _ => rfl) rr_ix) (ref_cons (ref_op (ref_var 19) (ref_c fun _ _ => rfl) rr_ix) ref_nil)))) rr_c)) ref_nil) rc_all)) (ref_var 18)))) (rw_if (ref_or (ref_tst (ref_op (ref_var 17) (ref_lst ref_nil) rr_eq)) (ref_tst (ref_op (ref_call (es := []) (fun _ _ => rfl) (ref_cons (ref_var 2) (ref_cons (ref_var 5) (ref_cons (ref_old (ref_var 16)) (ref_cons (ref_old (ref_op (ref_var 17) (ref_c fun _ _ => rfl) rr_ix)) ref_nil))))) (ref_c fun _ _ => rfl) rr_nb))) (rw_ret (ref_c fun _ _ => rfl)) rw_next))))))
theorem r_mt (T : Tp K mg base) : RefW (gx K) [10] (tAsg (tOp rCat (tVar 10) (tVar 12)) (gName 10)) m_mt := (rw_set (by decide) (ref_dat (ref_op (ref_var 10) (ref_var 12) rr_cat)))
theorem r_post (T : Tp K mg base) : RefS (gx K) (tIfS (tTest (tOp (rNeD K) (tCallW (pSp (gx K) 3 fs_loads_towards) (tCons (tVar 11) (tCons (tVar 5) (tCons (tVar 6) tNil)))) (tVar 12))) (tRet (tC (.bl false))) tNext) m_post := (rs_if (ref_tst (ref_op (ref_callW (ref_cons (ref_var 11) (ref_cons (ref_var 5) (ref_cons (ref_var 6) ref_nil)))) (ref_var 12) rr_ne)) (rs_ret (ref_c fun _ _ => rfl)) rs_next)
theorem r_turn (T : Tp K mg base) : RefS (gx K) (tSeq (tPar 12 13 (tCons (tCall (pSp (gx K) 3 fs_law_towards) [] E0 (tCons (tVar 8) (tCons (tVar 9) (tCons (tVar 11) tNil)))) (tCons (tCall (pSp (gx K) 3 fs_law_heaviest) [] E0 (tCons (tVar 8) (tCons (tVar 9) (tCons (tVar 11) tNil)))) tNil))) (tSeq (tPar 14 15 (tCons (tCall (pSp (gx K) 3 fs_loads_towards) [] E0 (tCons (tVar 6) (tCons (tVar 5) (tCons (tVar 11) tNil)))) (tCons (tCallW (pSp (gx K) 3 fs_heaviest) (tCons (tVar 11) (tCons (tVar 5) (tCons (tVar 6) tNil)))) tNil))) (tSeq (tIfS (tOr (tTest (tOp rNe (tCB (rRepr K) (tCons (tVar 14) tNil)) (tCB (rRepr K) (tCons (tVar 12) tNil)))) (tOr (tTest (tOp rNe (tCB (rRepr K) (tCons (tVar 15) tNil)) (tCB (rRepr K) (tCons (tVar 13) tNil)))) (tTest (tOp (rNeD K) (tCall (pSp (gx K) 3 fs_heaviest) [] E0 (tCons (tVar 6) (tCons (tVar 5) (tCons (tVar 11) tNil)))) (tVar 15))))) (tRet (tC (.bl false))) tNext) (tSeq (tFor (iList K (tVar 14)) (gName 16) (tSeq (tIfS (tOr (tTest (tOp rNotB (tCall (pSp (gx K) 3 fs_lets) [] E0 (tCons (tVar 6) (tCons (tVar 5) (tCons (tVar 16) tNil)))) (tC (.bl true)))) (tTest (tOp (rInD K) (tVar 16) (tVar 10)))) (tRet (tC (.bl false))) tNext) (tSeq (tAsg (tLc (iList K (tVar 15)) (gName 18) (tB (tCB (rAll K) (tCons (tLc (iList K (tVar 16)) (gName 19) tYes (tOp rLe (tOp (rIx K) (tVar 19) (tC (.int 2))) (tCall (pSp (gx K) 3 fs_law_many) [] E0 (tCons (tVar 18) (tCons (tOp (rIx K) (tVar 19) (tC (.int 0))) (tCons (tOp (rIx K) (tVar 19) (tC (.int 1))) tNil))))) [19]) tNil))) (tVar 18) [18]) (gName 17)) (tIfS (tOr (tTest (tOp (rEqD K) (tVar 17) (tLst tNil))) (tTest (tOp rNotB (tCall (pSp (gx K) 4 fs_is_at_most) [] E0 (tCons (tVar 2) (tCons (tVar 5) (tCons (tVar 16) (tCons (tOp (rIx K) (tVar 17) (tC (.int 0))) tNil))))) (tC (.bl true))))) (tRet (tC (.bl false))) tNext)))) (tSeq (tAsg (tOp rCat (tVar 10) (tVar 12)) (gName 10)) (tSeq (tAp0 K 14) (tSeq (tAp K 14) (tSeq (tAp K 15) (tIfS (tTest (tOp (rNeD K) (tCallW (pSp (gx K) 3 fs_loads_towards) (tCons (tVar 11) (tCons (tVar 5) (tCons (tVar 6) tNil)))) (tVar 12))) (tRet (tC (.bl false))) tNext))))))))) m_turn := by
  have h : RefS (gx K) (tSeq (tSeq (tPar 14 15 (tCons (tCall (pSp (gx K) 3 fs_loads_towards) [] E0 (tCons (tVar 6) (tCons (tVar 5) (tCons (tVar 11) tNil)))) (tCons (tCallW (pSp (gx K) 3 fs_heaviest) (tCons (tVar 11) (tCons (tVar 5) (tCons (tVar 6) tNil)))) tNil))) (tSeq (tIfS (tOr (tTest (tOp rNe (tCB (rRepr K) (tCons (tVar 14) tNil)) (tCB (rRepr K) (tCons (tVar 12) tNil)))) (tOr (tTest (tOp rNe (tCB (rRepr K) (tCons (tVar 15) tNil)) (tCB (rRepr K) (tCons (tVar 13) tNil)))) (tTest (tOp (rNeD K) (tCall (pSp (gx K) 3 fs_heaviest) [] E0 (tCons (tVar 6) (tCons (tVar 5) (tCons (tVar 11) tNil)))) (tVar 15))))) (tRet (tC (.bl false))) tNext) (tFor (iList K (tVar 14)) (gName 16) (tSeq (tIfS (tOr (tTest (tOp rNotB (tCall (pSp (gx K) 3 fs_lets) [] E0 (tCons (tVar 6) (tCons (tVar 5) (tCons (tVar 16) tNil)))) (tC (.bl true)))) (tTest (tOp (rInD K) (tVar 16) (tVar 10)))) (tRet (tC (.bl false))) tNext) (tSeq (tAsg (tLc (iList K (tVar 15)) (gName 18) (tB (tCB (rAll K) (tCons (tLc (iList K (tVar 16)) (gName 19) tYes (tOp rLe (tOp (rIx K) (tVar 19) (tC (.int 2))) (tCall (pSp (gx K) 3 fs_law_many) [] E0 (tCons (tVar 18) (tCons (tOp (rIx K) (tVar 19) (tC (.int 0))) (tCons (tOp (rIx K) (tVar 19) (tC (.int 1))) tNil))))) [19]) tNil))) (tVar 18) [18]) (gName 17)) (tIfS (tOr (tTest (tOp (rEqD K) (tVar 17) (tLst tNil))) (tTest (tOp rNotB (tCall (pSp (gx K) 4 fs_is_at_most) [] E0 (tCons (tVar 2) (tCons (tVar 5) (tCons (tVar 16) (tCons (tOp (rIx K) (tVar 17) (tC (.int 0))) tNil))))) (tC (.bl true))))) (tRet (tC (.bl false))) tNext)))))) (tSeq (tAsg (tOp rCat (tVar 10) (tVar 12)) (gName 10)) (tSeq (tAp0 K 14) (tSeq (tAp K 14) (tSeq (tAp K 15) (tIfS (tTest (tOp (rNeD K) (tCallW (pSp (gx K) 3 fs_loads_towards) (tCons (tVar 11) (tCons (tVar 5) (tCons (tVar 6) tNil)))) (tVar 12))) (tRet (tC (.bl false))) tNext)))))) (dTurn [14, 15, 16, 17] 14 15 m_pre m_mt m_post) := rs_turn (by decide) (by decide) (by decide) (by decide) (by decide) (r_pre T) (r_mt T) (r_post T)
  rw [tSeq_assoc, tSeq_assoc] at h
  exact rs_seq (rs_par (by decide) (ref_dat (ref_call (es := []) (fun _ _ => rfl) (ref_cons (ref_var 8) (ref_cons (ref_var 9) (ref_cons (ref_var 11) ref_nil))))) (ref_dat (ref_call (es := []) (fun _ _ => rfl) (ref_cons (ref_var 8) (ref_cons (ref_var 9) (ref_cons (ref_var 11) ref_nil)))))) h
def t_law_right (K : PySem.W.Frag) : TS := (tSeq (tAsg (tCall (qSp (gx K) 1 fs_law_renumbered) [] E0 (tCons (tVar 0) (tCons (tCall (qSp (gx K) 1 fs_law_lanes) [] E0 (tCons (tVar 0) (tCons (tOp rAdd (tC (.int 1)) (tCall (qSp (gx K) 1 fs_law_draw) [] E0 (tCons (tVar 0) (tCons (tC (.int 3)) tNil)))) tNil))) tNil))) (gName 1)) (tSeq (tPar3 2 3 4 (tCons (tMake (He.ga K "Country") (mSp (gx K) 0 1 fs_Country_init) [] E0 (tCons (tVar 1) tNil)) (tCons (tCall (pSp (gx K) 1 fs_law_yards) [] E0 (tCons (tVar 1) tNil)) (tCons (tLst tNil) tNil)))) (tSeq (tFor (iList K (tVar 3)) (gName 5) (tDrop (tBM K "list" rAppend (tVar 4) (tCons (tCall (qSp (gx K) 2 fs_law_book) [] E0 (tCons (tVar 0) (tCons (tCall (pSp (gx K) 2 fs_law_beside) [] E0 (tCons (tVar 1) (tCons (tVar 5) tNil))) (tCons (tOp (rIx K) (tLst (tCons (tC (.int 4)) (tCons (tC (.int 3)) (tCons (tC (.int 2)) tNil)))) (tOp rSub (tCB (rLen2 K) (tCons (tCall (pSp (gx K) 2 fs_law_beside) [] E0 (tCons (tVar 1) (tCons (tVar 5) tNil))) tNil)) (tC (.int 2)))) tNil)))) tNil)))) (tSeq (tPar 6 7 (tCons (tMake (He.ga K "Web") (mSp (gx K) 1 2 fs_Web_init) [] E0 (tCons (tVar 2) (tCons (tVar 4) tNil))) (tCons (tCall (qSp (gx K) 1 fs_law_draw) [] E0 (tCons (tVar 0) (tCons (tCB (rLen2 K) (tCons (tVar 3) tNil)) tNil))) tNil))) (tSeq (tAsg (tTup (tCons (tOp (rIx K) (tVar 3) (tVar 7)) (tCons (tOp (rIx K) (tVar 4) (tVar 7)) (tCons (tCall (pSp (gx K) 2 fs_law_beside) [] E0 (tCons (tVar 1) (tCons (tOp (rIx K) (tVar 3) (tVar 7)) tNil))) (tCons (tLst tNil) tNil))))) (gTup K 4 (gCons (gName 5) (gCons (gName 8) (gCons (gName 9) (gCons (gName 10) gNil)))))) (tSeq (tFor (iList K (tVar 9)) (gName 11) (tSeq (tPar 12 13 (tCons (tCall (pSp (gx K) 3 fs_law_towards) [] E0 (tCons (tVar 8) (tCons (tVar 9) (tCons (tVar 11) tNil)))) (tCons (tCall (pSp (gx K) 3 fs_law_heaviest) [] E0 (tCons (tVar 8) (tCons (tVar 9) (tCons (tVar 11) tNil)))) tNil))) (tSeq (tPar 14 15 (tCons (tCall (pSp (gx K) 3 fs_loads_towards) [] E0 (tCons (tVar 6) (tCons (tVar 5) (tCons (tVar 11) tNil)))) (tCons (tCallW (pSp (gx K) 3 fs_heaviest) (tCons (tVar 11) (tCons (tVar 5) (tCons (tVar 6) tNil)))) tNil))) (tSeq (tIfS (tOr (tTest (tOp rNe (tCB (rRepr K) (tCons (tVar 14) tNil)) (tCB (rRepr K) (tCons (tVar 12) tNil)))) (tOr (tTest (tOp rNe (tCB (rRepr K) (tCons (tVar 15) tNil)) (tCB (rRepr K) (tCons (tVar 13) tNil)))) (tTest (tOp (rNeD K) (tCall (pSp (gx K) 3 fs_heaviest) [] E0 (tCons (tVar 6) (tCons (tVar 5) (tCons (tVar 11) tNil)))) (tVar 15))))) (tRet (tC (.bl false))) tNext) (tSeq (tFor (iList K (tVar 14)) (gName 16) (tSeq (tIfS (tOr (tTest (tOp rNotB (tCall (pSp (gx K) 3 fs_lets) [] E0 (tCons (tVar 6) (tCons (tVar 5) (tCons (tVar 16) tNil)))) (tC (.bl true)))) (tTest (tOp (rInD K) (tVar 16) (tVar 10)))) (tRet (tC (.bl false))) tNext) (tSeq (tAsg (tLc (iList K (tVar 15)) (gName 18) (tB (tCB (rAll K) (tCons (tLc (iList K (tVar 16)) (gName 19) tYes (tOp rLe (tOp (rIx K) (tVar 19) (tC (.int 2))) (tCall (pSp (gx K) 3 fs_law_many) [] E0 (tCons (tVar 18) (tCons (tOp (rIx K) (tVar 19) (tC (.int 0))) (tCons (tOp (rIx K) (tVar 19) (tC (.int 1))) tNil))))) [19]) tNil))) (tVar 18) [18]) (gName 17)) (tIfS (tOr (tTest (tOp (rEqD K) (tVar 17) (tLst tNil))) (tTest (tOp rNotB (tCall (pSp (gx K) 4 fs_is_at_most) [] E0 (tCons (tVar 2) (tCons (tVar 5) (tCons (tVar 16) (tCons (tOp (rIx K) (tVar 17) (tC (.int 0))) tNil))))) (tC (.bl true))))) (tRet (tC (.bl false))) tNext)))) (tSeq (tAsg (tOp rCat (tVar 10) (tVar 12)) (gName 10)) (tSeq (tAp0 K 14) (tSeq (tAp K 14) (tSeq (tAp K 15) (tIfS (tTest (tOp (rNeD K) (tCallW (pSp (gx K) 3 fs_loads_towards) (tCons (tVar 11) (tCons (tVar 5) (tCons (tVar 6) tNil)))) (tVar 12))) (tRet (tC (.bl false))) tNext)))))))))) (tRet (tC (.bl true)))))))))
theorem r_law_right (T : Tp K mg base) : RefS (gx K) (t_law_right K) m_law_right := (rs_seq (rs_set (ref_dat (ref_callP (ref_cons (ref_callP (ref_cons (ref_op (ref_c fun _ _ => rfl) (ref_callP (ref_cons (ref_c fun _ _ => rfl) ref_nil)) rr_i0) ref_nil)) ref_nil)))) (rs_seq (rs_par3 (by decide) (by decide) (ref_make (k := 0) (ref_cons (ref_var 1) ref_nil)) (ref_call (es := []) (fun _ _ => rfl) (ref_cons (ref_var 1) ref_nil)) (ref_ownL ref_nil)) (rs_seq (rs_for (vs := [5]) (ri_list (ref_var 3)) (rn_name (by decide)) (rs_append (ref_callP (ref_cons (ref_call (es := []) (fun _ _ => rfl) (ref_cons (ref_var 1) (ref_cons (ref_var 5) ref_nil))) (ref_cons (ref_op (ref_lst (ref_cons (ref_c fun _ _ => rfl) (ref_cons (ref_c fun _ _ => rfl) (ref_cons (ref_c fun _ _ => rfl) ref_nil)))) (ref_op (ref_cb (ref_cons (ref_call (es := []) (fun _ _ => rfl) (ref_cons (ref_var 1) (ref_cons (ref_var 5) ref_nil))) ref_nil) rc_len) (ref_c fun _ _ => rfl) rr_i0) rr_ix) ref_nil))))) (rs_seq (rs_par (by decide) (ref_dat (ref_make (k := 1) (ref_cons (ref_var 2) (ref_cons (ref_var 4) ref_nil)))) (ref_dat (ref_callP (ref_cons (ref_cb (ref_cons (ref_var 3) ref_nil) rc_len) ref_nil)))) (rs_seq (rs_asg (ref_tup (ref_cons (ref_op (ref_var 3) (ref_var 7) rr_ix) (ref_cons (ref_op (ref_var 4) (ref_var 7) rr_ix) (ref_cons (ref_call (es := []) (fun _ _ => rfl) (ref_cons (ref_var 1) (ref_cons (ref_op (ref_var 3) (ref_var 7) rr_ix) ref_nil))) (ref_cons (ref_lst ref_nil) ref_nil))))) (rg_tup (rg_cons (rg_n (rn_name (vs := [5]) (by decide))) (rg_cons (rg_n (rn_name (vs := [8]) (by decide))) (rg_cons (rg_n (rn_name (vs := [9]) (by decide))) (rg_cons (rg_n (rn_name (vs := [10]) (by decide))) rg_nil gNm_ex) gNm_ex) gNm_ex) gNm_ex))) (rs_seq (rs_for (vs := [11]) (ri_list (ref_var 9)) (rn_name (by decide)) (r_turn T)) (rs_ret (ref_c fun _ _ => rfl))))))))
theorem fg_law_right (T : Tp K mg base) : ∃ f fd, FnG P w K mg base 10 f fd ps_law_right (qSp (gx K) 0 fs_law_right) ∧ mg "_law_right" = some (.ref f) ∧ PySem.W.keepIn K (.ref f) = true ∧ Binds K fd ps_law_right [] := by
  obtain ⟨fd, F⟩ := T.c.def_ 63 (d := d_law_right) rfl
  refine ⟨_, fd, fnG_pot (c := false) (fs := fs_law_right) (dts := m_law_right) F sc_law_right (fun cdv A outer s H E hg hr => ⟨t_law_right K, ?_, r_law_right T⟩) (fun p i j ds DQ po _ h => h p i j po), T.g_law_right, F.kp, F.bindsN fun _ _ _ _ _ _ us hl => match us, hl with | [_], _ => rfl⟩
  have nd := sc_law_right.nd
  have gd := hg
  exact (pss_cons (ps_set (i := 1) nd rfl (Or.inl rfl) (C8.pe_c (cal_law_renumbered T) hr (by decide) rfl (pa_cons (pv 0) (pa_cons (C8.pe_c (cal_law_lanes T) hr (by decide) rfl (pa_cons (pv 0) (pa_cons (pe_op op_add pe_int (C8.pe_c (cal_law_draw T) hr (by decide) rfl (pa_cons (pv 0) (pa_cons pe_int pa_nil)))) pa_nil))) pa_nil)))) (pss_cons (ps_par3 (i := 2) (j := 3) (l := 4) rfl nd rfl rfl rfl (by decide) (by decide) (by decide) rfl rfl rfl (pa_cons (C8.pe_mk (mak_Country T) hr (by decide) rfl (pa_cons (pv 1) pa_nil)) (pa_cons (C8.pe_c (cal_law_yards T) hr (by decide) rfl (pa_cons (pv 1) pa_nil)) (pa_cons (pe_lst pa_nil) pa_nil))) rfl) (pss_cons (ps_for PassesOwn.never rfl (pi_list (pv 3)) (pg_name (i := 5) nd rfl (by first | exact Or.inl rfl | exact Or.inr rfl)) (pss_one (ps_expr (pe_bm PySem.F.plainAttrs_list PySem.F.slot_list_append PySem.F.type_list_append mt_append (pv 4) (pa_cons (C8.pe_c (cal_law_book T) hr (by decide) rfl (pa_cons (pv 0) (pa_cons (C8.pe_c (cal_law_beside T) hr (by decide) rfl (pa_cons (pv 1) (pa_cons (pv 5) pa_nil))) (pa_cons (pe_ix ix_seq (pe_lst (pa_cons pe_int (pa_cons pe_int (pa_cons pe_int pa_nil)))) (pe_op op_sub (pe_callB cl_len rfl T.f_len bt_len (pa_cons (C8.pe_c (cal_law_beside T) hr (by decide) rfl (pa_cons (pv 1) (pa_cons (pv 5) pa_nil))) pa_nil)) pe_int) (fun _ _ => rfl)) pa_nil)))) pa_nil))))) (pss_cons (ps_par (i := 6) (j := 7) rfl nd rfl rfl (by decide) rfl rfl (pa_cons (C8.pe_mk (mak_Web T) hr (by decide) rfl (pa_cons (pv 2) (pa_cons (pv 4) pa_nil))) (pa_cons (C8.pe_c (cal_law_draw T) hr (by decide) rfl (pa_cons (pv 0) (pa_cons (pe_callB cl_len rfl T.f_len bt_len (pa_cons (pv 3) pa_nil)) pa_nil))) pa_nil)) rfl) (pss_cons (ps_asg (pe_tup (pa_cons (pe_ix ix_seq (pv 3) (pv 7) (fun _ _ => rfl)) (pa_cons (pe_ix ix_seq (pv 4) (pv 7) (fun _ _ => rfl)) (pa_cons (C8.pe_c (cal_law_beside T) hr (by decide) rfl (pa_cons (pv 1) (pa_cons (pe_ix ix_seq (pv 3) (pv 7) (fun _ _ => rfl)) pa_nil))) (pa_cons (pe_lst pa_nil) pa_nil))))) (pg_tup rfl (pgs_cons (pg_name (i := 5) nd rfl (Or.inl rfl)) (pgs_cons (pg_name (i := 8) nd rfl (Or.inl rfl)) (pgs_cons (pg_name (i := 9) nd rfl (Or.inl rfl)) (pgs_cons (pg_name (i := 10) nd rfl (Or.inl rfl)) pgs_nil)))))) (pss_cons (ps_for PassesOwn.never rfl (pi_list (pv 9)) (pg_name (i := 11) nd rfl (by first | exact Or.inl rfl | exact Or.inr rfl)) (pss_cons (ps_par (i := 12) (j := 13) rfl nd rfl rfl (by decide) rfl rfl (pa_cons (C8.pe_c (cal_law_towards T) hr (by decide) rfl (pa_cons (pv 8) (pa_cons (pv 9) (pa_cons (pv 11) pa_nil)))) (pa_cons (C8.pe_c (cal_law_heaviest T) hr (by decide) rfl (pa_cons (pv 8) (pa_cons (pv 9) (pa_cons (pv 11) pa_nil)))) pa_nil)) rfl) (pss_cons (ps_par (i := 14) (j := 15) rfl nd rfl rfl (by decide) rfl rfl (pa_cons (C8.pe_c (cal_loads_towards T) hr (by decide) rfl (pa_cons (pv 6) (pa_cons (pv 5) (pa_cons (pv 11) pa_nil)))) (pa_cons (pe_callW (kal_heaviest T) hr (by decide) rfl (pk_cons (pv 11) (pk_cons (pv 5) (pk_cons (pv 6) pk_nil)))) pa_nil)) rfl) (pss_cons (ps_if (PW.pt (pw_or (pt_cmpR op_ne (pe_callB (cr_repr (hu4 hr) gd) rfl T.f_repr bt_repr (pa_cons (pv 14) pa_nil)) (pe_callB (cr_repr (hu4 hr) gd) rfl T.f_repr bt_repr (pa_cons (pv 12) pa_nil)) (nomark _)) (pw_or (pt_cmpR op_ne (pe_callB (cr_repr (hu4 hr) gd) rfl T.f_repr bt_repr (pa_cons (pv 15) pa_nil)) (pe_callB (cr_repr (hu4 hr) gd) rfl T.f_repr bt_repr (pa_cons (pv 13) pa_nil)) (nomark _)) (pw_or1 (pt_cmpR (op_neD (hu4 hr)) (C8.pe_c (cal_heaviest T) hr (by decide) rfl (pa_cons (pv 6) (pa_cons (pv 5) (pa_cons (pv 11) pa_nil)))) (pv 15) (nomark _)))))) (pss_one (ps_ret pe_bl)) pss_nil) (pss_cons (ps_for PassesOwn.never rfl (pi_list (pv 14)) (pg_name (i := 16) nd rfl (by first | exact Or.inl rfl | exact Or.inr rfl)) (pss_cons (ps_if (PW.pt (pw_or (pt_cmpR op_notBl (C8.pe_c (cal_lets T) hr (by decide) rfl (pa_cons (pv 6) (pa_cons (pv 5) (pa_cons (pv 16) pa_nil)))) pe_bl (nomark _)) (pw_or1 (pt_cmpR (op_inD (hu5 hr)) (pv 16) (pv 10) (by with_unfolding_all rfl))))) (pss_one (ps_ret pe_bl)) pss_nil) (pss_cons (ps_setLc (i := 17) (own := [("_law_other", 18)]) (g := (gName 18)) (tt := (tB (tCB (rAll K) (tCons (tLc (iList K (tVar 16)) (gName 19) tYes (tOp rLe (tOp (rIx K) (tVar 19) (tC (.int 2))) (tCall (pSp (gx K) 3 fs_law_many) [] E0 (tCons (tVar 18) (tCons (tOp (rIx K) (tVar 19) (tC (.int 0))) (tCons (tOp (rIx K) (tVar 19) (tC (.int 1))) tNil))))) [19]) tNil)))) (te := (tVar 18)) rfl nd rfl rfl (sw_true rfl rfl rfl (by decide +kernel)) (pi_list (pv 15)) (blkOk_by (N := N_law_right) (sc := defScope s_law_right) (by decide +kernel)) (fun _ _ _ _ _ => (pg_name (i := 18) nd rfl (by first | exact Or.inl rfl | exact Or.inr rfl))) (fun _ _ _ _ _ => (pts_one (pt_val (pe_callB (cr_all rfl) rfl T.f_all bt_all (pa_cons (pe_lc (own := [("_law_row", 19)]) (g := (gName 19)) (tt := tYes) (te := (tOp rLe (tOp (rIx K) (tVar 19) (tC (.int 2))) (tCall (pSp (gx K) 3 fs_law_many) [] E0 (tCons (tVar 18) (tCons (tOp (rIx K) (tVar 19) (tC (.int 0))) (tCons (tOp (rIx K) (tVar 19) (tC (.int 1))) tNil)))))) rfl nd (pi_list (pv 16)) (blkOk_by (N := N_law_right) (sc := { kind := .function, names := [(".0", .local), ("_law_other", .cell), ("all", .globalImplicit), ("_law_load", .cell)], isGenerator := false, isCoroutine := false }) (by decide +kernel)) (fun _ _ _ _ _ => (pg_name (i := 19) nd rfl (by first | exact Or.inl rfl | exact Or.inr rfl))) (fun _ _ _ _ _ => pts_nil) (fun _ _ _ _ _ => (pe_cmpR op_le (pe_ix ix_seq (pv 19) pe_int (fun _ _ => rfl)) (C8.pe_c (cal_law_many T) hr (by decide) rfl (pa_cons (pv 18) (pa_cons (pe_ix ix_seq (pv 19) pe_int (fun _ _ => rfl)) (pa_cons (pe_ix ix_seq (pv 19) pe_int (fun _ _ => rfl)) pa_nil)))) (nomark _)))) pa_nil))))) (fun _ _ _ _ _ => (pv 18))) (pss_one (ps_if (PW.pt (pw_or (pt_cmpR (op_eqD (hu4 hr)) (pv 17) (pe_lst pa_nil) (nomark _)) (pw_or1 (pt_cmpR op_notBl (C8.pe_c (cal_is_at_most T) hr (by decide) rfl (pa_cons (pv 2) (pa_cons (pv 5) (pa_cons (pv 16) (pa_cons (pe_ix ix_seq (pv 17) pe_int (fun _ _ => rfl)) pa_nil))))) pe_bl (nomark _))))) (pss_one (ps_ret pe_bl)) pss_nil))))) (pss_cons (ps_set (i := 10) nd rfl (Or.inl rfl) (pe_op op_cat (pv 10) (pv 12))) (pss_cons (ps_expr (pe_bm PySem.F.plainAttrs_list PySem.F.slot_list_append PySem.F.type_list_append mt_append (pe_ix ix_seq (pv 14) pe_int (fun _ _ => rfl)) (pa_cons pe_non pa_nil))) (pss_cons (ps_expr (pe_bm PySem.F.plainAttrs_list PySem.F.slot_list_append PySem.F.type_list_append mt_append (pv 14) (pa_cons pe_non pa_nil))) (pss_cons (ps_expr (pe_bm PySem.F.plainAttrs_list PySem.F.slot_list_append PySem.F.type_list_append mt_append (pv 15) (pa_cons pe_non pa_nil))) (pss_one (ps_if (pt_cmpR (op_neD (hu4 hr)) (pe_callW (kal_loads_towards T) hr (by decide) rfl (pk_cons (pv 11) (pk_cons (pv 5) (pk_cons (pv 6) pk_nil)))) (pv 12) (nomark _)) (pss_one (ps_ret pe_bl)) pss_nil))))))))))) (pss_one (ps_ret pe_bl))))))))
end
end K26
set_option Elab.async false
set_option linter.all false
set_option maxRecDepth 100000
set_option maxHeartbeats 1000000
namespace K26
open PySem PySem.Spec PyProof.Rows L2
/-! ## loads, plainly -/
def optOk (o : Option Int) (x : Int) : Bool := match o with
  | none => true
  | some y => x == y
def hits (o t : Option Int) (r : Row) : Bool := optOk o r.1 && optOk t r.2.1
def manyR (l : List Row) (o t : Option Int) : Int := ((l.filter (hits o t)).map (·.2.2)).sum
abbrev Bd := Option Int × Option Int × Int
abbrev Alt := Int × List Bd
def okB (l : List Row) (b : Bd) : Bool := decide (manyR l b.1 b.2.1 ≤ b.2.2)
def okA (l : List Row) (a : Alt) : Bool := decide (manyR l none none ≤ a.1) && a.2.all (okB l)
def stands (bk : List Alt) (l : List Row) : Bool := bk.any (okA l)
def same (o t : Int) (r : Row) : Bool := r.1 == o && r.2.1 == t
def plus (l : List Row) (o t : Int) : List Row := sortR (l.filter (fun r => !same o t r) ++ [(o, t, 1 + manyR l (some o) (some t))])
def keyR (r : Row) : Int × Int := (r.1, r.2.1)
theorem keyR_ext {r : Row} {k : Int × Int} (h : keyR r = k) : r.1 = k.1 ∧ r.2.1 = k.2 := by
  subst h
  exact ⟨rfl, rfl⟩
theorem sortR_perm (l : List Row) : (sortR l).Perm l := srt_perm
abbrev keyLt (r s : Row) : Prop := r.1 < s.1 ∨ (r.1 = s.1 ∧ r.2.1 < s.2.1)
structure Good (ps : List (Int × Int)) (l : List Row) : Prop where
  mem : ∀ r ∈ l, keyR r ∈ ps
  pos : ∀ r ∈ l, 0 < r.2.2
  lt : l.Pairwise keyLt
def cnt (l : List Row) (p : Int × Int) : Int := manyR l (some p.1) (some p.2)
theorem sum_perm : ∀ {l m : List Int}, l.Perm m → l.sum = m.sum
  | _, _, .nil => rfl
  | _, _, .cons x h => by rw [List.sum_cons, List.sum_cons, sum_perm h]
  | _, _, .swap x y l => by
    rw [List.sum_cons, List.sum_cons, List.sum_cons, List.sum_cons]
    omega
  | _, _, .trans h1 h2 => (sum_perm h1).trans (sum_perm h2)
theorem many_perm {l m : List Row} (h : l.Perm m) (o t : Option Int) : manyR l o t = manyR m o t := sum_perm ((h.filter _).map _)
theorem many_cons (r : Row) (l : List Row) (o t : Option Int) : manyR (r :: l) o t = (if hits o t r = true then r.2.2 else 0) + manyR l o t := by
  unfold manyR
  rw [List.filter_cons]
  split
  · rw [List.map_cons, List.sum_cons]
  · rw [Int.zero_add]
theorem many_app (l m : List Row) (o t : Option Int) : manyR (l ++ m) o t = manyR l o t + manyR m o t := by
  unfold manyR
  rw [List.filter_append, List.map_append, List.sum_append]
theorem many_nil (o t : Option Int) : manyR [] o t = 0 := rfl
theorem same_hits {a b : Int} {o t : Option Int} {r : Row} (h : same a b r = true) : hits o t r = hits o t (a, b, 0) := by
  unfold same at h
  rw [Bool.and_eq_true, beq_iff_eq, beq_iff_eq] at h
  unfold hits
  rw [h.1, h.2]
theorem same_some (a b : Int) (r : Row) : hits (some a) (some b) r = same a b r := rfl
theorem many_split (l : List Row) (a b : Int) (o t : Option Int) : manyR l o t = manyR (l.filter fun r => !same a b r) o t + (if hits o t (a, b, 0) = true then manyR l (some a) (some b) else 0) := by
  induction l with
  | nil =>
    rw [List.filter_nil, many_nil, many_nil]
    split <;> rfl
  | cons r l ih =>
    rw [many_cons, many_cons, same_some, List.filter_cons]
    cases hs : same a b r with
    | true =>
      rw [same_hits hs, ih]
      simp only [Bool.not_true, Bool.false_eq_true, if_false, if_true]
      split <;> omega
    | false =>
      simp only [Bool.not_false, if_true, Bool.false_eq_true, if_false]
      rw [many_cons, ih]
      split <;> split <;> omega
theorem many_plus (l : List Row) (a b : Int) (o t : Option Int) : manyR (plus l a b) o t = manyR l o t + (if hits o t (a, b, 0) = true then 1 else 0) := by
  have h := many_split l a b o t
  unfold plus
  rw [many_perm (sortR_perm _) o t, many_app, many_cons, many_nil]
  have e : hits o t (a, b, 1 + manyR l (some a) (some b)) = hits o t (a, b, 0) := rfl
  rw [e]
  by_cases q : hits o t (a, b, 0) = true
  · rw [if_pos q] at h ⊢
    rw [if_pos q]
    show _ + (1 + manyR l (some a) (some b) + 0) = _
    omega
  · rw [if_neg q] at h ⊢
    rw [if_neg q]
    omega
theorem total_plus (l : List Row) (a b : Int) : manyR (plus l a b) none none = manyR l none none + 1 := many_plus l a b none none
theorem cnt_plus (l : List Row) (p q : Int × Int) : cnt (plus l p.1 p.2) q = cnt l q + (if p = q then 1 else 0) := by
  unfold cnt
  rw [many_plus]
  have e : hits (some q.1) (some q.2) (p.1, p.2, 0) = decide (p = q) := by
    show (p.1 == q.1 && p.2 == q.2) = _
    rw [Bool.eq_iff_iff, Bool.and_eq_true, beq_iff_eq, beq_iff_eq, decide_eq_true_eq]
    exact ⟨fun h => Prod.ext h.1 h.2, fun h => by rw [h]; exact ⟨rfl, rfl⟩⟩
  rw [e]
  by_cases h : p = q
  · rw [if_pos h, if_pos (decide_eq_true h)]
  · rw [if_neg h, if_neg (by rw [decide_eq_false h]; exact Bool.false_ne_true)]
theorem many_nn {l : List Row} (h : ∀ r ∈ l, 0 < r.2.2) (o t : Option Int) : 0 ≤ manyR l o t := by
  induction l with
  | nil => exact Int.le_refl _
  | cons r l ih =>
    rw [many_cons]
    have h1 := ih fun x hx => h x (List.mem_cons_of_mem _ hx)
    have h2 := h r List.mem_cons_self
    split <;> omega
section
variable {ps : List (Int × Int)} {l m : List Row}
theorem Good.keys (g : Good ps l) : l.Pairwise fun r s => keyR r ≠ keyR s := g.lt.imp fun {r s} h z => by
  obtain ⟨z1, z2⟩ := keyR_ext z
  have z1 : r.1 = s.1 := z1
  have z2 : r.2.1 = s.2.1 := z2
  rcases h with h | h <;> omega
theorem Good.nodup (g : Good ps l) : l.Nodup := g.keys.imp fun h z => h (congrArg keyR z)
theorem Good.nil : Good ps [] := ⟨(fun _ h => nomatch h), (fun _ h => nomatch h), List.Pairwise.nil⟩
theorem cnt_mem (g : Good ps l) {r : Row} (hr : r ∈ l) : cnt l (keyR r) = r.2.2 := by
  induction l with
  | nil => cases hr
  | cons s l ih =>
    have gl : Good ps l := ⟨fun x hx => g.mem x (List.mem_cons_of_mem _ hx), fun x hx => g.pos x (List.mem_cons_of_mem _ hx), g.lt.tail⟩
    have hk := List.pairwise_cons.mp g.keys
    have zero : ∀ {l : List Row} {k : Int × Int}, (∀ x ∈ l, k ≠ keyR x) → cnt l k = 0 := fun {l k} h => by
      induction l with
      | nil => rfl
      | cons x l ih2 =>
        unfold cnt at ih2 ⊢
        rw [many_cons, ih2 fun y hy => h y (List.mem_cons_of_mem _ hy), same_some]
        have e : same k.1 k.2 x = false := by
          unfold same
          rw [Bool.and_eq_false_iff, beq_eq_false_iff_ne, beq_eq_false_iff_ne]
          by_cases z : x.1 = k.1
          · exact .inr fun z2 => h x List.mem_cons_self (Prod.ext z.symm z2.symm)
          · exact .inl z
        rw [e]
        rfl
    unfold cnt
    rw [many_cons, same_some]
    rcases List.mem_cons.mp hr with z | z
    · subst z
      have e : same (keyR r).1 (keyR r).2 r = true := by
        show (r.1 == r.1 && r.2.1 == r.2.1) = true
        rw [beq_self_eq_true, beq_self_eq_true]
        rfl
      rw [if_pos e]
      have := zero (l := l) (k := keyR r) hk.1
      unfold cnt at this
      omega
    · have ne := hk.1 r z
      have e : same (keyR r).1 (keyR r).2 s = false := by
        unfold same
        rw [Bool.and_eq_false_iff, beq_eq_false_iff_ne, beq_eq_false_iff_ne]
        by_cases y : s.1 = (keyR r).1
        · exact .inr fun y2 => ne (Prod.ext y y2)
        · exact .inl y
      rw [e]
      have := ih gl z
      unfold cnt at this
      simp only [Bool.false_eq_true, if_false]
      omega
theorem cnt_pos {k : Int × Int} (h : 0 < cnt l k) : ∃ r ∈ l, keyR r = k := by
  induction l with
  | nil => exact absurd h (Int.lt_irrefl 0)
  | cons r l ih =>
    unfold cnt at h ih
    rw [many_cons, same_some] at h
    by_cases e : same k.1 k.2 r = true
    · refine ⟨r, List.mem_cons_self, ?_⟩
      unfold same at e
      rw [Bool.and_eq_true, beq_iff_eq, beq_iff_eq] at e
      exact Prod.ext e.1 e.2
    · rw [if_neg e, Int.zero_add] at h
      obtain ⟨x, hx, q⟩ := ih h
      exact ⟨x, List.mem_cons_of_mem _ hx, q⟩
theorem Good.plus (g : Good ps l) {p : Int × Int} (hp : p ∈ ps) : Good ps (plus l p.1 p.2) := by
  have pm : (K26.plus l p.1 p.2).Perm (l.filter (fun r => !same p.1 p.2 r) ++ [(p.1, p.2, 1 + manyR l (some p.1) (some p.2))]) := srt_perm
  have inn : ∀ r ∈ K26.plus l p.1 p.2, (r ∈ l ∧ same p.1 p.2 r = false) ∨ r = (p.1, p.2, 1 + manyR l (some p.1) (some p.2)) := fun r hr => by
    have h := pm.mem_iff.mp hr
    rcases List.mem_append.mp h with h | h
    · obtain ⟨h1, h2⟩ := List.mem_filter.mp h
      exact .inl ⟨h1, by rw [Bool.not_eq_true'] at h2; exact h2⟩
    · exact .inr (List.mem_singleton.mp h)
  refine ⟨fun r hr => ?_, fun r hr => ?_, ?_⟩
  · rcases inn r hr with h | h
    · exact g.mem r h.1
    · rw [h]
      exact hp
  · rcases inn r hr with h | h
    · exact g.pos r h.1
    · rw [h]
      have := many_nn g.pos (some p.1) (some p.2)
      show 0 < 1 + manyR l (some p.1) (some p.2)
      omega
  · have k1 : (l.filter (fun r => !same p.1 p.2 r) ++ [(p.1, p.2, 1 + manyR l (some p.1) (some p.2))]).Pairwise fun r s => keyR r ≠ keyR s := by
      refine List.pairwise_append.mpr ⟨g.keys.filter _, List.pairwise_singleton _ _, fun r hr s hs => ?_⟩
      obtain ⟨_, h2⟩ := List.mem_filter.mp hr
      rw [List.mem_singleton.mp hs]
      intro z
      obtain ⟨z1, z2⟩ := keyR_ext z
      have z1 : r.1 = p.1 := z1
      have z2 : r.2.1 = p.2 := z2
      unfold same at h2
      rw [z1, z2, beq_self_eq_true, beq_self_eq_true] at h2
      cases h2
    have k2 : (K26.plus l p.1 p.2).Pairwise fun r s => keyR r ≠ keyR s := (pm.pairwise_iff fun h z => h z.symm).mpr k1
    have k3 : (K26.plus l p.1 p.2).Pairwise fun r s => PySem.W.dataLe false (fun r => (rowD r).py) r s = true := srt_pw
    exact (k2.and k3).imp fun h => rowLt_key h.2 h.1
/-- by the counts of each pair -/
theorem many_sum (nd : ps.Nodup) (hm : ∀ r ∈ l, keyR r ∈ ps) (o t : Option Int) : manyR l o t = ((ps.filter fun p => hits o t (p.1, p.2, 0)).map (cnt l)).sum := by
  induction l with
  | nil =>
    have z : ∀ qs : List (Int × Int), (qs.map (cnt [])).sum = 0 := fun qs => by
      induction qs with
      | nil => rfl
      | cons q qs ih => rw [List.map_cons, List.sum_cons, ih]; rfl
    rw [z]
    rfl
  | cons r l ih =>
    rw [many_cons, ih fun x hx => hm x (List.mem_cons_of_mem _ hx)]
    have hr := hm r List.mem_cons_self
    have split : ∀ qs : List (Int × Int), (qs.map (cnt (r :: l))).sum = (qs.map fun q => if q = keyR r then r.2.2 else 0).sum + (qs.map (cnt l)).sum := fun qs => by
      induction qs with
      | nil => rfl
      | cons q qs ih2 =>
        rw [List.map_cons, List.sum_cons, ih2, List.map_cons, List.sum_cons, List.map_cons, List.sum_cons]
        have e : cnt (r :: l) q = (if q = keyR r then r.2.2 else 0) + cnt l q := by
          unfold cnt
          rw [many_cons, same_some]
          have e2 : same q.1 q.2 r = decide (q = keyR r) := by
            show (r.1 == q.1 && r.2.1 == q.2) = _
            rw [Bool.eq_iff_iff, Bool.and_eq_true, beq_iff_eq, beq_iff_eq, decide_eq_true_eq]
            exact ⟨fun h => Prod.ext h.1.symm h.2.symm, fun h => by rw [h]; exact ⟨rfl, rfl⟩⟩
          rw [e2]
          by_cases h : q = keyR r
          · rw [if_pos h, if_pos (decide_eq_true h)]
          · rw [if_neg h, if_neg (by rw [decide_eq_false h]; exact Bool.false_ne_true)]
        rw [e]
        omega
    rw [split]
    have one : ∀ qs : List (Int × Int), qs.Nodup → (qs.map fun q => if q = keyR r then r.2.2 else 0).sum = if keyR r ∈ qs then r.2.2 else 0 := fun qs => by
      induction qs with
      | nil => intro _; rfl
      | cons q qs ih2 =>
        intro h
        obtain ⟨h1, h2⟩ := List.nodup_cons.mp h
        rw [List.map_cons, List.sum_cons, ih2 h2]
        by_cases e : q = keyR r
        · rw [if_pos e, if_neg (by rw [← e]; exact h1), if_pos (by rw [e]; exact List.mem_cons_self)]
          omega
        · rw [if_neg e, Int.zero_add]
          by_cases e2 : keyR r ∈ qs
          · rw [if_pos e2, if_pos (List.mem_cons_of_mem _ e2)]
          · rw [if_neg e2, if_neg fun z => (List.mem_cons.mp z).elim (fun y => e y.symm) e2]
    rw [one _ (nd.filter _)]
    have e : hits o t r = hits o t ((keyR r).1, (keyR r).2, 0) := rfl
    rw [e]
    by_cases q : hits o t ((keyR r).1, (keyR r).2, 0) = true
    · rw [if_pos q, if_pos (List.mem_filter.mpr ⟨hr, q⟩)]
    · rw [if_neg q, if_neg (fun z : keyR r ∈ ps.filter (fun p => hits o t (p.1, p.2, 0)) => q (List.mem_filter.mp z).2)]
theorem many_mono (nd : ps.Nodup) (g : Good ps l) (g2 : Good ps m) (h : ∀ p ∈ ps, cnt l p ≤ cnt m p) (o t : Option Int) : manyR l o t ≤ manyR m o t := by
  rw [many_sum nd g.mem, many_sum nd g2.mem]
  have key : ∀ qs : List (Int × Int), (∀ q ∈ qs, q ∈ ps) → (qs.map (cnt l)).sum ≤ (qs.map (cnt m)).sum := fun qs => by
    induction qs with
    | nil => intro _; exact Int.le_refl _
    | cons q qs ih =>
      intro hq
      rw [List.map_cons, List.sum_cons, List.map_cons, List.sum_cons]
      have h1 := h q (hq q List.mem_cons_self)
      have h2 := ih fun x hx => hq x (List.mem_cons_of_mem _ hx)
      omega
  exact key _ fun q hq => (List.mem_filter.mp hq).1
theorem stands_mono {bk : List Alt} (nd : ps.Nodup) (g : Good ps l) (g2 : Good ps m) (h : ∀ p ∈ ps, cnt l p ≤ cnt m p) (s : stands bk m = true) : stands bk l = true := by
  unfold stands at s ⊢
  obtain ⟨a, ha, q⟩ := List.any_eq_true.mp s
  refine List.any_eq_true.mpr ⟨a, ha, ?_⟩
  unfold okA at q ⊢
  rw [Bool.and_eq_true, decide_eq_true_eq] at q ⊢
  refine ⟨Int.le_trans (many_mono nd g g2 h _ _) q.1, List.all_eq_true.mpr fun b hb => ?_⟩
  have q2 := List.all_eq_true.mp q.2 b hb
  unfold okB at q2 ⊢
  rw [decide_eq_true_eq] at q2 ⊢
  exact Int.le_trans (many_mono nd g g2 h _ _) q2
theorem good_uniq (g : Good ps l) (g2 : Good ps m) (h : ∀ p ∈ ps, cnt l p = cnt m p) : l = m := by
  have sub : ∀ {l m : List Row}, Good ps l → Good ps m → (∀ p ∈ ps, cnt l p = cnt m p) → ∀ r ∈ l, r ∈ m := fun {l m} g g2 h r hr => by
    have e := cnt_mem g hr
    have p := g.pos r hr
    rw [h _ (g.mem r hr)] at e
    obtain ⟨s, hs, k⟩ := cnt_pos (l := m) (k := keyR r) (by omega)
    have e2 := cnt_mem g2 hs
    rw [k] at e2
    have es : s = r := Prod.ext (keyR_ext k).1 (Prod.ext (keyR_ext k).2 (by omega))
    rw [← es]
    exact hs
  have pm : l.Perm m := (List.perm_ext_iff_of_nodup g.nodup g2.nodup).mpr fun r => ⟨sub g g2 h r, sub g2 g (fun p hp => (h p hp).symm) r⟩
  refine List.Perm.eq_of_pairwise (le := keyLt) (fun a b _ _ h1 h2 => ?_) g.lt g2.lt pm
  rcases h1 with h1 | h1 <;> rcases h2 with h2 | h2 <;> omega
end
end K26
set_option Elab.async false
set_option linter.all false
set_option maxRecDepth 100000
set_option maxHeartbeats 1000000
namespace K26
open PySem PySem.Spec PyProof.Rows L2
/-! ## the search for the loads that stand -/
abbrev Nd := List Row × Nat
section
variable (bk : List Alt) (ps : List (Int × Int))
def kidAt (l : List Row) (i : Nat) : Option Nd := match ps[i]? with
  | some p => if stands bk (plus l p.1 p.2) = true then some (plus l p.1 p.2, i) else none
  | none => none
def kids (x : Nd) : List Nd := (List.range' x.2 (ps.length - x.2)).filterMap (kidAt bk ps x.1)
def tr : Nat → Nd → List (List Row)
  | 0, x => [x.1]
  | n + 1, x => x.1 :: (kids bk ps x).flatMap (tr n)
def TT (x : Nd) : List (List Row) := tr bk ps 5 x
def std : List (List Row) := (kids bk ps ([], 0)).flatMap (TT bk ps)
def refused (l : List Row) : Bool := !ps.any fun p => stands bk (plus l p.1 p.2)
end
def total (l : List Row) : Int := manyR l none none
structure Cap (bk : List Alt) (ps : List (Int × Int)) : Prop where
  cap : ∀ l, stands bk l = true → total l ≤ 4
  nd : ps.Nodup
  few : ps.length ≤ 3
section
variable {bk : List Alt} {ps : List (Int × Int)}
theorem kid_mem {x y : Nd} (h : y ∈ kids bk ps x) : ∃ p, p ∈ ps ∧ ps[y.2]? = some p ∧ y.1 = plus x.1 p.1 p.2 ∧ stands bk y.1 = true ∧ total y.1 = total x.1 + 1 := by
  obtain ⟨i, hi, e⟩ := List.mem_filterMap.mp h
  unfold kidAt at e
  cases hp : ps[i]? with
  | none =>
    rw [hp] at e
    cases e
  | some p =>
    rw [hp] at e
    simp only at e
    split at e
    · rename_i hs
      have e2 := Option.some.inj e
      rw [← e2]
      exact ⟨p, List.mem_of_getElem? hp, hp, rfl, hs, total_plus _ _ _⟩
    · cases e
theorem kid_of {l : List Row} {f i : Nat} {p : Int × Int} (hp : ps[i]? = some p) (hf : f ≤ i) (hs : stands bk (plus l p.1 p.2) = true) : (plus l p.1 p.2, i) ∈ kids bk ps (l, f) := by
  have hl := (List.getElem?_eq_some_iff.mp hp).1
  refine List.mem_filterMap.mpr ⟨i, List.mem_range'_1.mpr ⟨hf, by omega⟩, ?_⟩
  unfold kidAt
  rw [hp]
  simp only
  rw [if_pos hs]
theorem kids_len (c : Cap bk ps) (x : Nd) : (kids bk ps x).length ≤ 3 := by
  have h1 : (kids bk ps x).length ≤ (List.range' x.2 (ps.length - x.2)).length := List.length_filterMap_le _ _
  rw [List.length_range'] at h1
  have := c.few
  omega
theorem kids_stop (c : Cap bk ps) {x : Nd} (h : 4 ≤ total x.1) : kids bk ps x = [] := by
  cases e : kids bk ps x with
  | nil => rfl
  | cons y r =>
    obtain ⟨p, _, _, _, h4, h5⟩ := kid_mem (bk := bk) (ps := ps) (x := x) (y := y) (by rw [e]; exact List.mem_cons_self)
    have := c.cap _ h4
    omega
theorem tr_stable (c : Cap bk ps) : ∀ (n : Nat) (x : Nd), 4 ≤ total x.1 + n → tr bk ps n x = tr bk ps (n + 1) x
  | 0, x, h => by
    show [x.1] = x.1 :: (kids bk ps x).flatMap (tr bk ps 0)
    rw [kids_stop c (by omega)]
    rfl
  | n + 1, x, h => by
    show x.1 :: (kids bk ps x).flatMap (tr bk ps n) = x.1 :: (kids bk ps x).flatMap (tr bk ps (n + 1))
    congr 1
    have key : ∀ ys : List Nd, (∀ y ∈ ys, total y.1 = total x.1 + 1) → ys.flatMap (tr bk ps n) = ys.flatMap (tr bk ps (n + 1)) := fun ys => by
      induction ys with
      | nil => intro _; rfl
      | cons y ys ih =>
        intro hy
        rw [List.flatMap_cons, List.flatMap_cons, ih fun z hz => hy z (List.mem_cons_of_mem _ hz), tr_stable c n y (by have := hy y List.mem_cons_self; omega)]
    exact key _ fun y hy => by
      obtain ⟨_, _, _, _, _, h5⟩ := kid_mem hy
      exact h5
theorem TT_eq (c : Cap bk ps) {x : Nd} (h : 0 ≤ total x.1) : TT bk ps x = x.1 :: (kids bk ps x).flatMap (TT bk ps) := by
  have e := tr_stable c 5 x (by omega)
  exact e
theorem tr_len (c : Cap bk ps) : ∀ (n : Nat) (x : Nd), (tr bk ps n x).length ≤ 4 ^ n
  | 0, x => Nat.le_refl _
  | n + 1, x => by
    show ((kids bk ps x).flatMap (tr bk ps n)).length + 1 ≤ _
    have key : ∀ ys : List Nd, (ys.flatMap (tr bk ps n)).length ≤ ys.length * 4 ^ n := fun ys => by
      induction ys with
      | nil => simp
      | cons y ys ih =>
        rw [List.flatMap_cons, List.length_append, List.length_cons, Nat.succ_mul]
        have := tr_len c n y
        omega
    have h1 := key (kids bk ps x)
    have h2 := kids_len c x
    have h3 : (kids bk ps x).length * 4 ^ n ≤ 3 * 4 ^ n := Nat.mul_le_mul_right _ h2
    have h4 : 0 < 4 ^ n := Nat.pow_pos (by decide)
    rw [Nat.pow_succ]
    omega
theorem TT_len (c : Cap bk ps) (x : Nd) : (TT bk ps x).length ≤ 1024 := tr_len c 5 x
theorem tr_mem : ∀ (n : Nat) (x : Nd) (y : List Row), Good ps x.1 → y ∈ tr bk ps n x → Good ps y ∧ (y = x.1 ∨ (stands bk y = true ∧ total x.1 < total y))
  | 0, x, y, g, h => by
    have e := List.mem_singleton.mp h
    rw [e]
    exact ⟨g, .inl rfl⟩
  | n + 1, x, y, g, h => by
    rcases List.mem_cons.mp (show y ∈ x.1 :: (kids bk ps x).flatMap (tr bk ps n) from h) with e | h
    · rw [e]
      exact ⟨g, .inl rfl⟩
    · obtain ⟨z, hz, hy⟩ := List.mem_flatMap.mp h
      obtain ⟨p, h1, h2, h3, h4, h5⟩ := kid_mem hz
      have gz : Good ps z.1 := by rw [h3]; exact g.plus h1
      obtain ⟨k1, k2⟩ := tr_mem n z y gz hy
      refine ⟨k1, .inr ?_⟩
      rcases k2 with e | ⟨k3, k4⟩
      · rw [e]
        exact ⟨h4, by omega⟩
      · exact ⟨k3, by omega⟩
theorem std_mem {y : List Row} (h : y ∈ std bk ps) : Good ps y ∧ stands bk y = true ∧ 0 < total y := by
  obtain ⟨z, hz, hy⟩ := List.mem_flatMap.mp h
  obtain ⟨p, h1, h2, h3, h4, h5⟩ := kid_mem hz
  have gz : Good ps z.1 := by rw [h3]; exact Good.nil.plus h1
  have z0 : total z.1 = 1 := h5
  obtain ⟨k1, k2⟩ := tr_mem 5 z y gz hy
  refine ⟨k1, ?_⟩
  rcases k2 with e | ⟨k3, k4⟩
  · rw [e]
    exact ⟨h4, by omega⟩
  · exact ⟨k3, by omega⟩
theorem std_ne {y : List Row} (h : y ∈ std bk ps) : y ≠ [] := fun e => by
  have := (std_mem h).2.2
  rw [e] at this
  exact absurd this (Int.lt_irrefl 0)
theorem compl (c : Cap bk ps) {l : List Row} (g : Good ps l) (s : stands bk l = true) : ∀ (n : Nat) (l0 : List Row) (f : Nat), Good ps l0 → (∀ p ∈ ps, cnt l0 p ≤ cnt l p) → (∀ (i : Nat) (p : Int × Int), i < f → ps[i]? = some p → cnt l0 p = cnt l p) → total l ≤ total l0 + n → l ∈ tr bk ps n (l0, f) := by
  intro n
  induction n with
  | zero =>
    intro l0 f g0 hle hf ht
    by_cases h : ∀ p ∈ ps, cnt l0 p = cnt l p
    · rw [good_uniq g0 g h]
      exact List.mem_cons_self
    · exfalso
      obtain ⟨p, hp, hne⟩ : ∃ p, p ∈ ps ∧ cnt l0 p ≠ cnt l p := Classical.byContradiction fun z => h fun p hp => Classical.byContradiction fun y => z ⟨p, hp, y⟩
      have h1 := hle p hp
      have h2 : total (plus l0 p.1 p.2) ≤ total l := many_mono c.nd (g0.plus hp) g (fun q hq => by
        rw [cnt_plus]
        have := hle q hq
        split
        · rename_i e
          subst e
          omega
        · omega) none none
      have h3 : total (plus l0 p.1 p.2) = total l0 + 1 := total_plus _ _ _
      omega
  | succ n ih =>
    intro l0 f g0 hle hf ht
    by_cases h : ∀ p ∈ ps, cnt l0 p = cnt l p
    · rw [good_uniq g0 g h]
      exact List.mem_cons_self
    · -- the least place that lacks
      have ex : ∃ (i : Nat) (p : Int × Int), ps[i]? = some p ∧ cnt l0 p ≠ cnt l p := by
        obtain ⟨p, hp, hne⟩ : ∃ p, p ∈ ps ∧ cnt l0 p ≠ cnt l p := Classical.byContradiction fun z => h fun p hp => Classical.byContradiction fun y => z ⟨p, hp, y⟩
        obtain ⟨i, hi⟩ := List.mem_iff_getElem?.mp hp
        exact ⟨i, p, hi, hne⟩
      have least : ∀ i : Nat, (∃ p : Int × Int, ps[i]? = some p ∧ cnt l0 p ≠ cnt l p) → ∃ (j : Nat) (p : Int × Int), (ps[j]? = some p ∧ cnt l0 p ≠ cnt l p) ∧ ∀ (k : Nat) (q : Int × Int), k < j → ps[k]? = some q → cnt l0 q = cnt l q := fun i => by
        induction i using Nat.strongRecOn with
        | ind i ih2 =>
          intro hi
          by_cases z : ∃ k : Nat, k < i ∧ ∃ q : Int × Int, ps[k]? = some q ∧ cnt l0 q ≠ cnt l q
          · obtain ⟨k, hk, hq⟩ := z
            exact ih2 k hk hq
          · obtain ⟨p, hp⟩ := hi
            exact ⟨i, p, hp, fun k q hk hq => Classical.byContradiction fun y => z ⟨k, hk, q, hq, y⟩⟩
      obtain ⟨i0, p0, e0⟩ := ex
      obtain ⟨j, p, ⟨hp, hne⟩, hlow⟩ := least i0 ⟨p0, e0⟩
      have pm : p ∈ ps := List.mem_of_getElem? hp
      have h1 := hle p pm
      have fj : f ≤ j := Nat.le_of_not_lt fun z => hne (hf j p z hp)
      have le2 : ∀ q ∈ ps, cnt (plus l0 p.1 p.2) q ≤ cnt l q := fun q hq => by
        rw [cnt_plus]
        have := hle q hq
        split
        · rename_i e
          subst e
          omega
        · omega
      have gp := g0.plus pm
      have sp := stands_mono c.nd gp g le2 s
      have km := kid_of (f := f) hp fj sp
      refine List.mem_cons_of_mem _ (List.mem_flatMap.mpr ⟨_, km, ih _ j gp le2 (fun k q hk hq => ?_) ?_⟩)
      · rw [cnt_plus, hlow k q hk hq]
        have ne : p ≠ q := fun e => by
          subst e
          exact hne (hlow k p hk hq)
        rw [if_neg ne]
        omega
      · have h3 : total (plus l0 p.1 p.2) = total l0 + 1 := total_plus _ _ _
        omega
theorem std_all (c : Cap bk ps) {l : List Row} (g : Good ps l) (s : stands bk l = true) (ne : 0 < total l) : l ∈ std bk ps := by
  have h := compl c g s 5 [] 0 Good.nil (fun p _ => many_nn g.pos _ _) (fun i p hi => absurd hi (Nat.not_lt_zero _)) (by
    have := c.cap l s
    have z : total [] = 0 := rfl
    omega)
  have e := TT_eq (bk := bk) (x := ([], 0)) c (show 0 ≤ total [] from Int.le_refl _)
  have h2 : l ∈ [] :: std bk ps := by
    have h3 : l ∈ TT bk ps ([], 0) := h
    rw [e] at h3
    exact h3
  rcases List.mem_cons.mp h2 with z | z
  · rw [z] at ne
    exact absurd ne (Int.lt_irrefl 0)
  · exact z
/-- every load lies under a heaviest one -/
theorem under (c : Cap bk ps) : ∀ (n : Nat) (l : List Row), 4 ≤ total l + n → l ∈ std bk ps → ∃ h, h ∈ std bk ps ∧ refused bk ps h = true ∧ ∀ p ∈ ps, cnt l p ≤ cnt h p := by
  intro n
  induction n with
  | zero =>
    intro l hl hm
    refine ⟨l, hm, ?_, fun _ _ => Int.le_refl _⟩
    unfold refused
    rw [Bool.not_eq_true', List.any_eq_false]
    intro p hp hs
    have h1 := c.cap _ hs
    have h3 : total (plus l p.1 p.2) = total l + 1 := total_plus _ _ _
    omega
  | succ n ih =>
    intro l hl hm
    by_cases r : refused bk ps l = true
    · exact ⟨l, hm, r, fun _ _ => Int.le_refl _⟩
    · unfold refused at r
      rw [Bool.not_eq_true', Bool.not_eq_false] at r
      obtain ⟨p, hp, hs⟩ := List.any_eq_true.mp r
      obtain ⟨g, _, pos⟩ := std_mem hm
      have h3 : total (plus l p.1 p.2) = total l + 1 := total_plus _ _ _
      obtain ⟨h, k1, k2, k3⟩ := ih (plus l p.1 p.2) (by omega) (std_all c (g.plus hp) hs (by omega))
      refine ⟨h, k1, k2, fun q hq => ?_⟩
      have := k3 q hq
      rw [cnt_plus] at this
      split at this <;> omega
theorem flat_TT (c : Cap bk ps) : ∀ xs : List Nd, (∀ x ∈ xs, 0 ≤ total x.1) → (xs.flatMap (TT bk ps)).Perm (xs.map (·.1) ++ (xs.flatMap (kids bk ps)).flatMap (TT bk ps))
  | [], _ => .refl _
  | x :: xs, h => by
    rw [List.flatMap_cons, List.map_cons, List.flatMap_cons, List.flatMap_append, TT_eq c (h x List.mem_cons_self)]
    have ih := flat_TT c xs fun y hy => h y (List.mem_cons_of_mem _ hy)
    refine List.Perm.cons _ ?_
    have sw : ∀ A B C : List (List Row), (A ++ (B ++ C)).Perm (B ++ (A ++ C)) := fun A B C => by
      rw [← List.append_assoc, ← List.append_assoc]
      exact List.Perm.append_right _ List.perm_append_comm
    exact (List.Perm.append_left _ ih).trans (sw _ _ _)
theorem flat_len (c : Cap bk ps) (xs : List Nd) (h : ∀ x ∈ xs, 0 ≤ total x.1) : (xs.flatMap (TT bk ps)).length = xs.length + ((xs.flatMap (kids bk ps)).flatMap (TT bk ps)).length := by
  rw [(flat_TT c xs h).length_eq, List.length_append, List.length_map]
end
end K26
set_option Elab.async false
set_option linter.all false
set_option maxRecDepth 100000
set_option maxHeartbeats 1000000
namespace K26
open PySem PySem.Spec PyProof.Rows L2
/-! ## data programs, by what they give -/
theorem lcL_enc {α : Type} {g : DTG} {t : DTT} {a : DTE} {vs : List Nat} {δ : DS} (enc : α → D) (p : α → Bool) (f : α → D) : ∀ (xs : List α) (acc : List D) (Q : List D → Prop),
    (∀ x ∈ xs, ∀ (K : D → Prop) (K' : Prop), (p x = true → K (f x)) → (p x = false → K') → g (enc x) (wipeD δ vs) fun δ2 => t δ2 fun b δ3 => match b with
      | true => a δ3 fun y δ4 => wipeD δ4 vs = wipeD δ vs ∧ K y
      | false => wipeD δ3 vs = wipeD δ vs ∧ K') → Q (acc ++ (xs.filter p).map f) → dLcL g t a vs δ Q (xs.map enc) acc
  | [], acc, Q, _, q => by
    rw [List.filter_nil, List.map_nil, List.append_nil] at q
    exact q
  | x :: xs, acc, Q, h, q => h x List.mem_cons_self (fun y => dLcL g t a vs δ Q (xs.map enc) (acc ++ [y])) (dLcL g t a vs δ Q (xs.map enc) acc)
      (fun e => lcL_enc enc p f xs _ Q (fun y hy => h y (List.mem_cons_of_mem _ hy)) (by
        rw [List.filter_cons, if_pos e, List.map_cons] at q
        rw [List.append_assoc]
        exact q))
      (fun e => lcL_enc enc p f xs _ Q (fun y hy => h y (List.mem_cons_of_mem _ hy)) (by
        rw [List.filter_cons, if_neg (by rw [e]; decide)] at q
        exact q))
def Wl {α : Type} (enc : α → D) (I : List α → DS → Prop) (ds : List D) (δ : DS) : Prop := ∃ r, ds = r.map enc ∧ I r δ
theorem for_by {α : Type} (enc : α → D) {w : DTI} {g : DTG} {b : DTS} {E : DEnds} {δ δ1 : DS} (xs : List α) (I : List α → DS → Prop) (hw : ∀ P : List D → DS → Prop, P (xs.map enc) δ1 → w δ P) (h0 : I xs δ1)
    (hs : ∀ x r δ, I (x :: r) δ → ∃ δ2, (∀ P : DS → Prop, P δ2 → g (enc x) δ P) ∧ b { nx := Wl enc I (r.map enc), rt := E.rt, ct := Wl enc I (r.map enc), bk := E.nx } δ2) (hd : ∀ δ, I [] δ → E.nx δ) : dFor w g b E δ :=
  hw _ ⟨Wl enc I, ⟨xs, rfl, h0⟩, fun d ds δ ⟨r0, e, h⟩ => by
    cases r0 with
    | nil => cases e
    | cons x r =>
      rw [List.map_cons] at e
      injection e with e1 e2
      subst e1 e2
      obtain ⟨δ2, h1, h2⟩ := hs x r δ h
      exact h1 _ h2, fun δ ⟨r0, e, h⟩ => by
    cases r0 with
    | nil => exact hd δ h
    | cons x r => cases e⟩
/-- a test that is known -/
theorem if_t {b : Bool} {A B : Prop} (e : b = true) (h : A) : (match b with | true => A | false => B) := by
  subst e
  exact h
theorem if_f {b : Bool} {A B : Prop} (e : b = false) (h : B) : (match b with | true => A | false => B) := by
  subst e
  exact h
theorem if_c {b : Bool} {A B : Prop} (h : b = true → A) (h' : b = false → B) : (match b with | true => A | false => B) := by
  cases b with
  | true => exact h rfl
  | false => exact h' rfl
abbrev Ev (t : DTT) (δ : DS) (b : Bool) : Prop := ∀ P : Bool → DS → Prop, P b δ → t δ P
abbrev EvE (e : DTE) (δ : DS) (d : D) : Prop := ∀ P : D → DS → Prop, P d δ → e δ P
abbrev EvA (l : DTA) (δ : DS) (ds : List D) : Prop := ∀ P : List D → DS → Prop, P ds δ → l δ P
abbrev EvI (w : DTI) (δ : DS) (ds : List D) : Prop := ∀ P : List D → DS → Prop, P ds δ → w δ P
abbrev EvG (g : DTG) (d : D) (δ δ2 : DS) : Prop := ∀ P : DS → Prop, P δ2 → g d δ P
section
variable {t u : DTT} {a e : DTE} {δ δ2 : DS} {b c : Bool} {x y z d : D} {l : DTA} {ds xs es : List D} {f : DSp} {w : DTI} {g : DTG} {vs : List Nat} {E : DEnds} {i : Nat}
theorem ev_and (h1 : Ev t δ b) (h2 : b = true → Ev u δ c) : Ev (dAnd t u) δ (b && c) := fun P h => h1 _ (by
  cases b with
  | true => exact h2 rfl _ h
  | false => exact h)
theorem ev_or (h1 : Ev t δ b) (h2 : b = false → Ev u δ c) : Ev (dOr t u) δ (b || c) := fun P h => h1 _ (by
  cases b with
  | true => exact h
  | false => exact h2 rfl _ h)
theorem ev_not (h1 : Ev t δ b) : Ev (dNot t) δ (!b) := fun P h => h1 _ h
theorem ev_tst (h1 : EvE a δ (.bl b)) : Ev (dTst a) δ b := fun P h => h1 _ h
theorem ee_and (h1 : EvE a δ (.bl b)) (h2 : b = true → EvE e δ (.bl c)) : EvE (dAndV a e) δ (.bl (b && c)) := fun P h => h1 _ (by
  cases b with
  | true => exact h2 rfl _ h
  | false => exact h)
theorem ee_or (h1 : EvE a δ (.bl b)) (h2 : b = false → EvE e δ (.bl c)) : EvE (dOrV a e) δ (.bl (b || c)) := fun P h => h1 _ (by
  cases b with
  | true => exact h
  | false => exact h2 rfl _ h)
theorem ee_not (h1 : EvE a δ (.bl b)) : EvE (dNotV a) δ (.bl (!b)) := fun P h => h1 _ h
theorem ee_op {r : DR2} (h1 : EvE a δ x) (h2 : EvE e δ y) (h : ∀ P : D → Prop, P z → r x y P) : EvE (dOp r a e) δ z := fun P q => h1 _ (h2 _ (h _ q))
theorem ee_cb {r : DRC} (h1 : EvA l δ xs) (h : ∀ P : D → Prop, P z → r xs P) : EvE (dCB r l) δ z := fun P q => h1 _ (h _ q)
theorem ee_call (h1 : EvA l δ ds) (h : ∀ P : D → Prop, P z → f (ds ++ es) P) : EvE (dCall f es l) δ z := fun P q => h1 _ (h _ q)
theorem ee_tup (h1 : EvA l δ ds) : EvE (dTup l) δ (.tup ds) := fun P q => h1 _ q
theorem ee_lst (h1 : EvA l δ ds) : EvE (dLst l) δ (.lst ds) := fun P q => h1 _ q
theorem ea_nil : EvA dNil δ [] := fun P q => q
theorem ea_cons (h1 : EvE a δ x) (h2 : EvA l δ xs) : EvA (dCons a l) δ (x :: xs) := fun P q => h1 _ (h2 _ q)
theorem ei_lst (h1 : EvE a δ (.lst ds)) : EvI (dItL a) δ ds := fun P q => h1 _ q
theorem ei_new (h1 : EvE a δ (.new ds)) : EvI (dItL a) δ ds := fun P q => h1 _ q
theorem ee_slT {lo hi : DTO} {o p : Option Int} (h1 : EvE a δ (.tup ds)) (h2 : ∀ P : Option Int → DS → Prop, P o δ → lo δ P) (h3 : ∀ P : Option Int → DS → Prop, P p δ → hi δ P) (h : ¬ (HT.sIx ds.length 0 o = 0 ∧ HT.sIx ds.length ds.length p = ds.length)) : EvE (dSlT a lo hi) δ (.tup (cutD ds o p)) := fun P q => h1 _ (h2 _ (h3 _ ⟨h, q⟩))
theorem st_ret (h : EvE a δ d) (q : E.rt d δ) : dRet a E δ := h _ q
theorem st_seq {t u : DTS} (h : t { nx := u E, rt := E.rt, bk := E.bk, ct := E.ct } δ) : dSeq t u E δ := h
theorem put_by {s : Sl} {Q : DS → Prop} (hi : ∃ s, δ[i]? = some s) (q : Q (δ.set i s)) : putS i s δ Q := by
  obtain ⟨_, e⟩ := hi
  unfold putS
  rw [e]
  exact q
theorem st_set (h : EvE a δ d) (hi : ∃ s, δ[i]? = some s) (q : E.nx (δ.set i (.dat d))) : dSet i (dDat a) E δ := h _ (put_by hi q)
theorem sq_set {u : DTS} (h : EvE a δ d) (hi : ∃ s, δ[i]? = some s) (q : u E (δ.set i (.dat d))) : dSeq (dSet i (dDat a)) u E δ := h _ (put_by hi q)
theorem sq_asg {u : DTS} (h : EvE a δ d) (hg : EvG g d δ δ2) (q : u E δ2) : dSeq (dAsg a g) u E δ := h _ (hg _ q)
theorem sq_if {T U u : DTS} (h1 : Ev t δ b) (h : b = true → dSeq T u E δ) (h' : b = false → dSeq U u E δ) : dSeq (dIf t T U) u E δ := h1 _ (by
  cases b with
  | true => exact h rfl
  | false => exact h' rfl)
theorem sq_next {u : DTS} (q : u E δ) : dSeq dNext u E δ := q
theorem sq_ret {u : DTS} (h : EvE a δ d) (q : E.rt d δ) : dSeq (dRet a) u E δ := h _ q
theorem sq_assoc {t u v : DTS} (q : dSeq t (dSeq u v) E δ) : dSeq (dSeq t u) v E δ := q
theorem st_if {T U : DTS} (h1 : Ev t δ b) (h : b = true → T E δ) (h' : b = false → U E δ) : dIf t T U E δ := h1 _ (by
  cases b with
  | true => exact h rfl
  | false => exact h' rfl)
theorem st_asg (h : EvE a δ d) (hg : EvG g d δ δ2) (q : E.nx δ2) : dAsg a g E δ := h _ (hg _ q)
/-- one turn of a comprehension that leaves the slots -/
structure Turn (g : DTG) (t : DTT) (a : DTE) (vs : List Nat) (δ : DS) (x : D) (b : Bool) (y : D) : Prop where
  ex : ∃ δ2, EvG g x (wipeD δ vs) δ2 ∧ wipeD δ2 vs = wipeD δ vs ∧ Ev t δ2 b ∧ (b = true → EvE a δ2 y)
theorem lcL_turn {α : Type} (enc : α → D) (p : α → Bool) (f : α → D) (ys : List α) (Q : List D → Prop) (h : ∀ x ∈ ys, Turn g t a vs δ (enc x) (p x) (f x)) (q : Q ((ys.filter p).map f)) : dLcL g t a vs δ Q (ys.map enc) [] :=
  lcL_enc enc p f ys [] Q (fun x hx K K' k k' => by
    obtain ⟨δ2, h1, h2, h3, h4⟩ := (h x hx).ex
    refine h1 _ (h3 _ ?_)
    cases e : p x with
    | true => exact h4 e _ ⟨h2, k e⟩
    | false => exact ⟨h2, k' e⟩) q
theorem ee_lc {α : Type} (enc : α → D) (p : α → Bool) (f : α → D) (ys : List α) (hw : EvI w δ (ys.map enc)) (no : noOwn δ vs = true) (hl : ys.length < 100000) (h : ∀ x ∈ ys, Turn g t a vs δ (enc x) (p x) (f x)) : EvE (dLc w g t a vs) δ (.lst ((ys.filter p).map f)) :=
  fun P q => hw _ ⟨no, by rw [List.length_map]; exact hl, lcL_turn enc p f ys _ h q⟩
theorem ee_lcN {α : Type} (enc : α → D) (p : α → Bool) (f : α → D) (ys : List α) (hw : EvI w δ (ys.map enc)) (no : noOwn δ vs = true) (hl : ys.length < 100000) (h : ∀ x ∈ ys, Turn g t a vs δ (enc x) (p x) (f x)) : EvE (dLcN w g t a vs) δ (.new ((ys.filter p).map f)) :=
  fun P q => hw _ ⟨no, by rw [List.length_map]; exact hl, lcL_turn enc p f ys _ h q⟩
theorem ee_lc1 {α : Type} (enc : α → D) (f : α → D) (ys : List α) (hw : EvI w δ (ys.map enc)) (no : noOwn δ vs = true) (hl : ys.length < 100000) (h : ∀ x ∈ ys, Turn g dYes a vs δ (enc x) true (f x)) : EvE (dLc w g dYes a vs) δ (.lst (ys.map f)) := by
  have k := ee_lc (w := w) enc (fun _ => true) f ys hw no hl h
  rw [List.filter_eq_self.mpr fun _ _ => rfl] at k
  exact k
end
theorem p_is_integer {i : Int} {Q : D → Prop} (h : Q (.bl true)) : fs_is_integer [.int i] Q := h
theorem p_is_count {i : Int} {Q : D → Prop} (h : Q (.bl (decide (0 ≤ i)))) : fs_is_count [.int i] Q := p_is_integer h
theorem p_is_count1 {i : Int} {Q : D → Prop} (hi : 0 ≤ i) (h : Q (.bl true)) : fs_is_count [.int i] Q := p_is_count (by rw [decide_eq_true hi]; exact h)
theorem p_is_list {ds : List D} {Q : D → Prop} (h : Q (.bl true)) : fs_is_list [.lst ds] Q := h
theorem p_is_listT {ds : List D} {Q : D → Prop} (h : Q (.bl true)) : fs_is_list [.tup ds] Q := h
/-! ### loads -/
def optD : Option Int → D
  | none => .non
  | some i => .int i
def bdD (b : Bd) : D := .tup [optD b.1, optD b.2.1, .int b.2.2]
def altD (a : Alt) : D := .tup [.int a.1, .lst (a.2.map bdD)]
def bookD (b : List Alt) : D := .lst (b.map altD)
theorem in_ns {o : Option Int} {x : Int} (P : D → Prop) (h : P (.bl (optOk o x))) : inNS (optD o) (.tup [.non, .int x]) P := by
  cases o <;> exact h
abbrev LoadD (d : D) (l : List Row) : Prop := d = loadL l ∨ d = loadN l
theorem ei_load {d : D} {l : List Row} (h : LoadD d l) {i : Nat} {δ : DS} (hi : δ[i]? = some (.dat d)) : EvI (dItL (dVar i)) δ (l.map rowD) := fun P q => by
  unfold dItL dVar
  rw [hi]
  rcases h with h | h <;> subst h <;> exact q
theorem row_at0 {i : Nat} {δ : DS} {r : Row} (h : δ[i]? = some (.dat (rowD r))) : EvE (dOp ixOp (dVar i) (dC (.int 0))) δ (.int r.1) := ee_op (x := rowD r) (fun P p => by unfold dVar; rw [h]; exact p) (fun P p => p) fun P p => ⟨_, rfl, p⟩
theorem row_at1 {i : Nat} {δ : DS} {r : Row} (h : δ[i]? = some (.dat (rowD r))) : EvE (dOp ixOp (dVar i) (dC (.int 1))) δ (.int r.2.1) := ee_op (x := rowD r) (fun P p => by unfold dVar; rw [h]; exact p) (fun P p => p) fun P p => ⟨_, rfl, p⟩
theorem row_at2 {i : Nat} {δ : DS} {r : Row} (h : δ[i]? = some (.dat (rowD r))) : EvE (dOp ixOp (dVar i) (dC (.int 2))) δ (.int r.2.2) := ee_op (x := rowD r) (fun P p => by unfold dVar; rw [h]; exact p) (fun P p => p) fun P p => ⟨_, rfl, p⟩
theorem sum_ints (f : Row → Int) (l : List Row) (P : D → Prop) (h : P (.int (l.map f).sum)) : sumD [.lst (l.map fun r => .int (f r))] P := ⟨l.map f, by rw [List.map_map]; rfl, h⟩
theorem p_law_many {d : D} {l : List Row} {o t : Option Int} {Q : D → Prop} (h : LoadD d l) (hl : l.length < 100000) (q : Q (.int (manyR l o t))) : fs_law_many [d, optD o, optD t] Q := by
  refine st_ret (ee_cb (ea_cons (ee_lc rowD (hits o t) (fun r => .int r.2.2) l (ei_load h rfl) rfl hl fun r _ => ⟨_, fun P p => p, rfl, ?_, fun _ => row_at2 rfl⟩) ea_nil) (sum_ints (fun r => r.2.2) _)) q
  exact ev_and (ev_tst (ee_op (fun P p => p) (ee_tup (ea_cons (fun P p => p) (ea_cons (row_at0 rfl) ea_nil))) in_ns)) fun _ => ev_tst (ee_op (fun P p => p) (ee_tup (ea_cons (fun P p => p) (ea_cons (row_at1 rfl) ea_nil))) in_ns)
theorem p_keeps {d : D} {l : List Row} {b : Bd} {Q : D → Prop} (h : LoadD d l) (q : Q (.bl (okB l b))) : fs_keeps [bdD b, d] Q := by
  obtain ⟨o, t, m⟩ := b
  refine for_by rowD l (fun r δ => ∃ n s6 s7 s8, δ = [.dat (bdD (o, t, m)), .dat d, .dat (optD o), .dat (optD t), .dat (.int m), .dat (.int n), s6, s7, s8] ∧ n + manyR r o t = manyR l o t) (ei_load (i := 1) (δ := [.dat (bdD (o, t, m)), .dat d, .dat (optD o), .dat (optD t), .dat (.int m), .dat (.int 0), .no, .no, .no]) h rfl) ⟨0, _, _, _, rfl, Int.zero_add _⟩ ?_ ?_
  · rintro ⟨a, b, c⟩ r δ ⟨n, s6, s7, s8, rfl, e⟩
    rw [many_cons] at e
    refine ⟨[.dat (bdD (o, t, m)), .dat d, .dat (optD o), .dat (optD t), .dat (.int m), .dat (.int n), .dat (.int a), .dat (.int b), .dat (.int c)], fun P p => p, ?_⟩
    refine st_if (b := optOk o a && optOk t b) (ev_and (ev_tst (ee_op (fun P p => p) (fun P p => p) in_ns)) fun _ => ev_tst (ee_op (fun P p => p) (fun P p => p) in_ns)) (fun hb => ?_) fun hb => ?_
    · have hb2 : hits o t (a, b, c) = true := hb
      rw [if_pos hb2] at e
      exact ⟨r, rfl, n + c, _, _, _, rfl, by rw [← e]; exact Int.add_assoc _ _ _⟩
    · have hb2 : ¬ hits o t (a, b, c) = true := fun z => by
        have : (optOk o a && optOk t b) = true := z
        rw [hb] at this
        cases this
      rw [if_neg hb2] at e
      exact ⟨r, rfl, n, _, _, _, rfl, by omega⟩
  · rintro δ ⟨n, s6, s7, s8, rfl, e⟩
    have e2 : n = manyR l o t := by
      have z : manyR [] o t = 0 := rfl
      omega
    subst e2
    exact q
end K26
set_option Elab.async false
set_option linter.all false
set_option maxRecDepth 100000
set_option maxHeartbeats 1000000
namespace K26
open PySem PySem.Spec PyProof.Rows L2
theorem many_all (l : List Row) : manyR l none none = (l.map (·.2.2)).sum := by
  unfold manyR
  rw [List.filter_eq_self.mpr (fun a _ => show hits none none a = true from rfl)]
theorem all_bls {α : Type} (f : α → Bool) (l : List α) (P : D → Prop) (h : P (.bl (l.all f))) : allD [.lst (l.map fun x => .bl (f x))] P := ⟨l.map f, by rw [List.map_map]; rfl, by
  have e : (l.map f).all id = l.all f := by rw [List.all_map]; rfl
  rw [e]
  exact h⟩
theorem any_bls {α : Type} (f : α → Bool) (l : List α) (P : D → Prop) (h : P (.bl (l.any f))) : anyD [.lst (l.map fun x => .bl (f x))] P := ⟨l.map f, by rw [List.map_map]; rfl, by
  have e : (l.map f).any id = l.any f := by rw [List.any_map]; rfl
  rw [e]
  exact h⟩
/-- small lists -/
structure BookS (bk : List Alt) : Prop where
  ln : bk.length < 100000
  bd : ∀ a ∈ bk, a.2.length < 100000
section
variable {d : D} {l : List Row} {Q : D → Prop}
theorem p_stands_by_one {a : Alt} (h : LoadD d l) (hl : l.length < 100000) (hb : a.2.length < 100000) (q : Q (.bl (okA l a))) : fs_stands_by_one [altD a, d] Q := by
  obtain ⟨p, bs⟩ := a
  refine sq_asg (d := altD (p, bs)) (δ2 := [.dat (altD (p, bs)), .dat d, .dat (.int p), .dat (.lst (bs.map bdD)), .no, .no, .no, .no]) (fun P k => k) (fun P k => k) (sq_if (b := decide (p < manyR l none none)) ?_ (fun e => ?_) fun e => ?_)
  · refine ev_tst (ee_op (x := .int (manyR l none none)) (y := .int p) ?_ (fun P k => k) (fun P k => k))
    rw [many_all]
    exact ee_cb (ea_cons (ee_lc1 rowD (fun r => .int r.2.2) l (ei_load h rfl) rfl hl fun r _ => ⟨_, fun P k => k, rfl, fun P k => k, fun _ P k => k⟩) ea_nil) (sum_ints (fun r => r.2.2) _)
  · have e2 : okA l (p, bs) = false := by
      rw [decide_eq_true_eq] at e
      unfold okA
      rw [decide_eq_false (show ¬ manyR l none none ≤ p by omega), Bool.false_and]
    rw [e2] at q
    exact sq_ret (d := .bl false) (fun P k => k) q
  · have e2 : okA l (p, bs) = bs.all (okB l) := by
      rw [decide_eq_false_iff_not] at e
      unfold okA
      rw [decide_eq_true (show manyR l none none ≤ p by omega), Bool.true_and]
    rw [e2] at q
    refine sq_next ?_
    exact st_ret (ee_cb (ea_cons (ee_lc1 bdD (fun b => .bl (okB l b)) bs (ei_lst fun P k => k) rfl hb fun b _ => ⟨_, fun P k => k, rfl, fun P k => k, fun _ => ee_call (ea_cons (fun P k => k) (ea_cons (fun P k => k) ea_nil)) fun P k => p_keeps h k⟩) ea_nil) (all_bls (okB l) bs)) q
theorem p_stands_by {bk : List Alt} (h : LoadD d l) (hl : l.length < 100000) (hb : BookS bk) (q : Q (.bl (stands bk l))) : fs_stands_by [bookD bk, d] Q := by
  refine for_by altD bk (fun r δ => ∃ s2, δ = [.dat (bookD bk), .dat d, s2] ∧ r.any (okA l) = stands bk l ∧ ∀ a ∈ r, a ∈ bk) (ei_lst (a := dVar 0) (δ := [.dat (bookD bk), .dat d, .no]) fun P k => k) ⟨_, rfl, rfl, fun _ z => z⟩ ?_ ?_
  · rintro a r δ ⟨s2, rfl, e, hm⟩
    refine ⟨[.dat (bookD bk), .dat d, .dat (altD a)], fun P k => k, st_if (b := okA l a) (ev_tst (ee_call (ea_cons (fun P k => k) (ea_cons (fun P k => k) ea_nil)) fun P k => p_stands_by_one h hl (hb.bd a (hm a List.mem_cons_self)) k)) (fun c => ?_) fun c => ?_⟩
    · rw [List.any_cons, c, Bool.true_or] at e
      rw [← e] at q
      exact q
    · rw [List.any_cons, c, Bool.false_or] at e
      exact ⟨r, rfl, _, rfl, e, fun x hx => hm x (List.mem_cons_of_mem _ hx)⟩
  · rintro δ ⟨s2, rfl, e, _⟩
    rw [← e] at q
    exact q
theorem p_law_stands {bk : List Alt} (h : LoadD d l) (hl : l.length < 100000) (hb : BookS bk) (q : Q (.bl (stands bk l))) : fs_law_stands [bookD bk, d] Q := by
  refine for_by altD bk (fun r δ => ∃ s2 s3, δ = [.dat (bookD bk), .dat d, s2, s3, .no] ∧ r.any (okA l) = stands bk l ∧ ∀ a ∈ r, a ∈ bk) (ei_lst (a := dVar 0) (δ := [.dat (bookD bk), .dat d, .no, .no, .no]) fun P k => k) ⟨_, _, rfl, rfl, fun _ z => z⟩ ?_ ?_
  · rintro ⟨p, bs⟩ r δ ⟨s2, s3, rfl, e, hm⟩
    have hbs : bs.length < 100000 := hb.bd (p, bs) (hm _ List.mem_cons_self)
    refine ⟨[.dat (bookD bk), .dat d, .dat (.int p), .dat (.lst (bs.map bdD)), .no], fun P k => k, st_if (b := okA l (p, bs)) ?_ (fun c => ?_) fun c => ?_⟩
    · refine ev_and (b := decide (manyR l none none ≤ p)) (c := bs.all (okB l)) (ev_tst (ee_op (x := .int (manyR l none none)) (y := .int p) (ee_call (ea_cons (fun P k => k) (ea_cons (fun P k => k) (ea_cons (fun P k => k) ea_nil))) fun P k => p_law_many (o := none) (t := none) h hl k) (fun P k => k) (fun P k => k))) fun _ => ?_
      refine ev_tst (ee_cb (ea_cons (ee_lc1 bdD (fun b => .bl (okB l b)) bs (ei_lst fun P k => k) rfl hbs fun b _ => ⟨_, fun P k => k, rfl, fun P k => k, fun _ => ?_⟩) ea_nil) (all_bls (okB l) bs))
      obtain ⟨o, t, m⟩ := b
      have ix : ∀ {j : Nat} {z : D} {δ : DS}, δ[4]? = some (.dat (bdD (o, t, m))) → ([optD o, optD t, .int m] : List D)[j]? = some z → EvE (dOp ixOp (dVar 4) (dC (.int (j : Nat)))) δ z := fun {j z δ} h1 h2 => ee_op (x := bdD (o, t, m)) (fun P k => by unfold dVar; rw [h1]; exact k) (fun P k => k) fun P k => ⟨_, atI_nat h2, k⟩
      exact ee_op (x := .int (manyR l o t)) (y := .int m) (ee_call (ea_cons (fun P k => k) (ea_cons (ix (j := 0) rfl rfl) (ea_cons (ix (j := 1) rfl rfl) ea_nil))) fun P k => p_law_many h hl k) (ix (j := 2) rfl rfl) (fun P k => k)
    · rw [List.any_cons, c, Bool.true_or] at e
      rw [← e] at q
      exact q
    · rw [List.any_cons, c, Bool.false_or] at e
      exact ⟨r, rfl, _, _, rfl, e, fun x hx => hm x (List.mem_cons_of_mem _ hx)⟩
  · rintro δ ⟨s2, s3, rfl, e, _⟩
    rw [← e] at q
    exact q
theorem eqv_pair (a b c e : Int) : PyData.eqv (.tuple [.int a, .int b]) (.tuple [.int c, .int e]) = (a == c && b == e) := by
  simp [PyData.eqv, PyData.eqvAll]
theorem nc_two (a b : Int) : OkD (.tup [.int a, .int b]) := (nc_pair (a, b)).ok
theorem row_two {i : Nat} {δ : DS} {r : Row} (h : δ[i]? = some (.dat (rowD r))) : EvE (dSlT (dVar i) dNoP (dPart (dC (.int 2)))) δ (.tup [.int r.1, .int r.2.1]) :=
  ee_slT (ds := [.int r.1, .int r.2.1, .int r.2.2]) (o := none) (p := some 2) (fun P k => by unfold dVar; rw [h]; exact k) (fun P k => k) (fun P k => k) (show ¬ (HT.sIx 3 0 none = 0 ∧ HT.sIx 3 3 (some 2) = 3) by decide)
theorem sorted_new (ls : List Row) (hl : ls.length < 100000) (P : D → Prop) (h : P (loadN (sortR ls))) : sortedDN [.lst (ls.map rowD)] P := ⟨sok_R ls hl, by rw [sortD_R]; exact h⟩
theorem sorted_lst (ls : List Row) (hl : ls.length < 100000) (P : D → Prop) (h : P (loadL (sortR ls))) : sortedD [.lst (ls.map rowD)] P := ⟨sok_R ls hl, by rw [sortD_R]; exact h⟩
theorem p_plus_cart {o t : Int} (h : LoadD d l) (hl : l.length < 90000) (q : Q (loadN (plus l o t))) : fs_plus_cart [d, .int o, .int t] Q := by
  refine for_by rowD l (fun r δ => ∃ dn n s5, l = dn ++ r ∧ n = 1 + manyR dn (some o) (some t) ∧ δ = [.dat d, .dat (.int o), .dat (.int t), .own ((dn.filter fun r => !same o t r).map rowD), .dat (.int n), s5]) (ei_load (i := 0) (δ := [.dat d, .dat (.int o), .dat (.int t), .own [], .dat (.int 1), .no]) h rfl) ⟨[], 1, _, rfl, rfl, rfl⟩ ?_ ?_
  · rintro x r δ ⟨dn, n, s5, e, en, rfl⟩
    have flen : ((dn.filter fun r => !same o t r).map rowD).length < 100000 := by
      have h1 := List.length_filter_le (fun r => !same o t r) dn
      have h2 := congrArg List.length e
      rw [List.length_append] at h2
      rw [List.length_map]
      omega
    refine ⟨[.dat d, .dat (.int o), .dat (.int t), .own ((dn.filter fun r => !same o t r).map rowD), .dat (.int n), .dat (rowD x)], fun P k => k, st_if (b := same o t x) ?_ (fun c => ?_) fun c => ?_⟩
    · exact ev_tst (ee_op (row_two rfl) (ee_tup (ea_cons (fun P k => k) (ea_cons (fun P k => k) ea_nil))) fun P k => ⟨⟨nc_two _ _, nc_two _ _⟩, by
        have e3 : PyData.eqv (D.tup [.int x.1, .int x.2.1]).py (D.tup [.int o, .int t]).py = same o t x := eqv_pair _ _ _ _
        rw [e3]
        exact k⟩)
    · refine st_set (i := 4) (d := .int (n + x.2.2)) (ee_op (x := .int n) (y := .int x.2.2) (fun P k => k) (row_at2 rfl) (fun P k => k)) ⟨_, rfl⟩ ⟨r, rfl, dn ++ [x], n + x.2.2, .dat (rowD x), by rw [List.append_assoc]; exact e, ?_, ?_⟩
      · rw [many_app, many_cons, same_some, if_pos c, many_nil, en]
        omega
      · have e4 : (dn ++ [x]).filter (fun r => !same o t r) = dn.filter fun r => !same o t r := by
          rw [List.filter_append, List.filter_cons, c]
          exact List.append_nil _
        rw [e4]
        rfl
    · refine ⟨flen, r, rfl, dn ++ [x], n, .dat (rowD x), by rw [List.append_assoc]; exact e, ?_, ?_⟩
      · rw [many_app, many_cons, same_some, if_neg (by rw [c]; exact Bool.false_ne_true), many_nil, en]
        omega
      · have e4 : (dn ++ [x]).filter (fun r => !same o t r) = dn.filter (fun r => !same o t r) ++ [x] := by
          rw [List.filter_append, List.filter_cons, c]
          rfl
        rw [e4, List.map_append]
        rfl
  · rintro δ ⟨dn, n, s5, e, en, rfl⟩
    rw [List.append_nil] at e
    subst e
    have flen := List.length_filter_le (fun r => !same o t r) l
    refine ⟨by rw [List.length_map]; show _ + 1 < _; omega, ?_⟩
    have e5 : (l.filter fun r => !same o t r).map rowD ++ [.tup [.int o, .int t, .int n]] = (l.filter (fun r => !same o t r) ++ [(o, t, 1 + manyR l (some o) (some t))]).map rowD := by
      rw [List.map_append, en]
      rfl
    rw [e5]
    exact sorted_new _ (by rw [List.length_append, List.length_singleton]; omega) _ q
theorem p_law_more {o t : Int} (h : LoadD d l) (hl : l.length < 90000) (q : Q (loadL (plus l o t))) : fs_law_more [d, .int o, .int t] Q := by
  refine sq_set (i := 3) (d := .lst ((l.filter fun r => !same o t r).map rowD)) (ee_lc rowD (fun r => !same o t r) rowD l (ei_load h rfl) rfl (by omega) fun x _ => ⟨_, fun P k => k, rfl, ?_, fun _ P k => k⟩) ⟨_, rfl⟩ (st_ret (ee_cb (ea_cons (ee_op (x := .lst ((l.filter fun r => !same o t r).map rowD)) (y := .lst [.tup [.int o, .int t, .int (1 + manyR l (some o) (some t))]]) (z := .lst ((l.filter (fun r => !same o t r) ++ [(o, t, 1 + manyR l (some o) (some t))]).map rowD)) (fun P k => k) ?_ fun P k => ?_) ea_nil) (sorted_lst _ ?_)) q)
  · exact ev_tst (ee_op (row_two rfl) (ee_tup (ea_cons (fun P k => k) (ea_cons (fun P k => k) ea_nil))) fun P k => ⟨⟨nc_two _ _, nc_two _ _⟩, by
      have e3 : PyData.eqv (D.tup [.int x.1, .int x.2.1]).py (D.tup [.int o, .int t]).py = same o t x := eqv_pair _ _ _ _
      rw [e3]
      exact k⟩)
  · exact ee_lst (ea_cons (ee_tup (ea_cons (fun P k => k) (ea_cons (fun P k => k) (ea_cons (ee_op (x := .int 1) (y := .int (manyR l (some o) (some t))) (fun P k => k) (ee_call (ea_cons (fun P k => k) (ea_cons (fun P k => k) (ea_cons (fun P k => k) ea_nil))) fun P k => p_law_many (o := some o) (t := some t) h (by omega) k) (fun P k => k)) ea_nil)))) ea_nil)
  · have flen := List.length_filter_le (fun r => !same o t r) l
    refine ⟨by rw [List.length_map]; show _ + 1 < _; omega, ?_⟩
    rw [List.map_append] at k
    exact k
  · have flen := List.length_filter_le (fun r => !same o t r) l
    rw [List.length_append, List.length_singleton]
    omega
end
end K26
set_option Elab.async false
set_option linter.all false
set_option maxRecDepth 100000
set_option maxHeartbeats 1000000
namespace K26
open PySem PySem.Spec PyProof.Rows L2
/-! ## the two searches -/
section
variable {δ δ2 : DS} {d : D} {ds es : List D} {i : Nat} {E : DEnds} {u : DTS} {g : DTG} {a : DTE}
theorem sq_pop (h : δ[i]? = some (.own ds)) (e : ds = es ++ [d]) (hg : EvG g d (δ.set i (.own es)) δ2) (q : u E δ2) : dSeq (dAsg (dPop i) g) u E δ := by
  subst e
  show ownS i δ fun ds => ∃ d, ds[ds.length - 1]? = some d ∧ g d (δ.set i (.own ds.dropLast)) (u E)
  unfold ownS
  rw [h]
  refine ⟨d, by simp, ?_⟩
  rw [List.dropLast_concat]
  exact hg _ q
theorem st_append (h : EvE a δ d) (ho : δ[i]? = some (.own ds)) (hl : ds.length < 100000) (q : E.nx (δ.set i (.own (ds ++ [d])))) : dAppend i a E δ := by
  show ownS i δ fun _ => a δ fun x δ1 => ownS i δ1 fun ds => ds.length < 100000 ∧ E.nx (δ1.set i (.own (ds ++ [x])))
  unfold ownS
  rw [ho]
  refine h _ ?_
  show (match δ[i]? with | some (.own ds) => ds.length < 100000 ∧ E.nx (δ.set i (.own (ds ++ [d]))) | _ => False)
  rw [ho]
  exact ⟨hl, q⟩
theorem sq_append (h : EvE a δ d) (ho : δ[i]? = some (.own ds)) (hl : ds.length < 100000) (q : u E (δ.set i (.own (ds ++ [d])))) : dSeq (dAppend i a) u E δ := st_append (E := { nx := u E, rt := E.rt, bk := E.bk, ct := E.ct }) h ho hl q
theorem sq_for {α : Type} (enc : α → D) {w : DTI} {b : DTS} (xs : List α) (I : List α → DS → Prop) (hw : EvI w δ (xs.map enc)) (h0 : I xs δ)
    (hs : ∀ x r δ, I (x :: r) δ → ∃ δ2, EvG g (enc x) δ δ2 ∧ b { nx := Wl enc I (r.map enc), rt := E.rt, ct := Wl enc I (r.map enc), bk := u E } δ2) (hd : ∀ δ, I [] δ → u E δ) : dSeq (dFor w g b) u E δ :=
  for_by (E := { nx := u E, rt := E.rt, bk := E.bk, ct := E.ct }) enc xs I hw h0 hs hd
theorem wh_by {c : DTT} {b : DTS} (W : Nat → DS → Prop) (h0 : ∃ m, W m δ) (st : ∀ m δ, W m δ → ∃ k, Ev c δ k ∧ (k = true → b { nx := fun δ' => ∃ m', m' < m ∧ W m' δ', rt := E.rt, ct := fun δ' => ∃ m', m' < m ∧ W m' δ', bk := E.nx } δ) ∧ (k = false → E.nx δ)) : dWhile c b E δ :=
  ⟨W, h0, fun m δ h => by
    obtain ⟨k, h1, h2, h3⟩ := st m δ h
    refine h1 _ ?_
    cases k with
    | true => exact h2 rfl
    | false => exact h3 rfl⟩
theorem sq_while {c : DTT} {b : DTS} (W : Nat → DS → Prop) (h0 : ∃ m, W m δ) (st : ∀ m δ, W m δ → ∃ k, Ev c δ k ∧ (k = true → b { nx := fun δ' => ∃ m', m' < m ∧ W m' δ', rt := E.rt, ct := fun δ' => ∃ m', m' < m ∧ W m' δ', bk := u E } δ) ∧ (k = false → u E δ)) : dSeq (dWhile c b) u E δ :=
  wh_by (E := { nx := u E, rt := E.rt, bk := E.bk, ct := E.ct }) W h0 st
theorem ev_nilO {n : Nat} (h : δ[i]? = some (.own ds)) (nc : Nc n (.lst ds)) (hn : n ≤ 64 := by decide) : Ev (dTst (dNilO i)) δ (!ds.isEmpty) := fun P k => by
  show (match δ[i]? with | some (.own ds) => (D.flats ds = true ∧ SeqAt.shaped (.list (D.pys ds)) = true) ∧ P (!ds.isEmpty) δ | _ => False)
  rw [h]
  exact ⟨⟨nc.fl, (nc.ok hn).sh⟩, k⟩
end
def natD (i : Nat) : D := .int (i : Nat)
theorem rg_nat (s n : Nat) : rg2D (s : Int) n = (List.range' s n).map natD := by
  unfold rg2D
  rw [List.range'_eq_map_range, List.map_map]
  exact List.map_congr_left fun i _ => congrArg D.int (by show (s : Int) + (i : Int) = ((s + i : Nat) : Int); omega)
def psD (ps : List (Int × Int)) : D := .lst (ps.map pairD)
section
variable {bk : List Alt} {ps : List (Int × Int)} {Q : D → Prop}
theorem Good.len {l : List Row} (g : Good ps l) : l.length ≤ ps.length := by
  have nd : (l.map keyR).Nodup := List.pairwise_map.mpr g.keys
  have h := nd.length_le_of_subset (l₂ := ps) fun k hk => by
    obtain ⟨r, hr, e⟩ := List.mem_map.mp hk
    rw [← e]
    exact g.mem r hr
  rw [List.length_map] at h
  exact h
theorem ev_rg2 {i j : Nat} {δ : DS} {f : Nat} (hi : δ[i]? = some (.dat (.int (f : Nat)))) (hj : δ[j]? = some (.dat (psD ps))) (hf : f < 1000) (hp : ps.length < 1000) :
    EvI (dRg2 (dCons (dVar i) (dCons (dCB lenD (dCons (dVar j) dNil)) dNil))) δ ((List.range' f (ps.length - f)).map natD) := fun P h => by
  have v : ∀ {i : Nat} {d : D}, δ[i]? = some (.dat d) → EvE (dVar i) δ d := fun {i d} h P k => by
    unfold dVar
    rw [h]
    exact k
  refine (ea_cons (v hi) (ea_cons (ee_cb (z := .int (ps.length : Nat)) (ea_cons (v hj) ea_nil) fun P k => ?_) ea_nil)) _ ?_
  · show P (.int ((ps.map pairD).length : Nat))
    rw [List.length_map]
    exact k
  · refine ⟨by omega, ?_⟩
    have e : ((ps.length : Int) - (f : Int)).toNat = ps.length - f := by omega
    rw [e, rg_nat]
    exact h
theorem pair_at {i j : Nat} {δ : DS} {n : Nat} {p : Int × Int} (hi : δ[i]? = some (.dat (psD ps))) (hj : δ[j]? = some (.dat (natD n))) (hp : ps[n]? = some p) : EvE (dOp ixOp (dVar i) (dVar j)) δ (pairD p) :=
  ee_op (x := psD ps) (y := natD n) (fun P k => by unfold dVar; rw [hi]; exact k) (fun P k => by unfold dVar; rw [hj]; exact k) fun P k => ⟨pairD p, atI_nat (by rw [List.getElem?_map, hp]; rfl), k⟩
theorem fst_at {a : DTE} {δ : DS} {p : Int × Int} (h : EvE a δ (pairD p)) : EvE (dOp ixOp a (dC (.int 0))) δ (.int p.1) := ee_op h (fun P k => k) fun P k => ⟨_, rfl, k⟩
theorem snd_at {a : DTE} {δ : DS} {p : Int × Int} (h : EvE a δ (pairD p)) : EvE (dOp ixOp a (dC (.int 1))) δ (.int p.2) := ee_op h (fun P k => k) fun P k => ⟨_, rfl, k⟩
/-- nodes that may stand in the search -/
structure NdOk (ps : List (Int × Int)) (x : Nd) : Prop where
  g : Good ps x.1
  t : 0 ≤ total x.1
  f : x.2 ≤ ps.length
theorem NdOk.root : NdOk ps ([], 0) := ⟨Good.nil, Int.le_refl _, Nat.zero_le _⟩
theorem NdOk.kid {x y : Nd} (h : NdOk ps x) (hy : y ∈ kids bk ps x) : NdOk ps y := by
  obtain ⟨p, h1, h2, h3, h4, h5⟩ := kid_mem hy
  refine ⟨by rw [h3]; exact h.g.plus h1, by have := h.t; omega, Nat.le_of_lt (List.getElem?_eq_some_iff.mp h2).1⟩
def nodeL (x : Nd) : D := .tup [loadL x.1, natD x.2]
theorem nc_nodeL (x : Nd) : Nc 3 (nodeL x) := .tup fun d hd => by
  simp only [List.mem_cons, List.not_mem_nil, or_false] at hd
  rcases hd with rfl | rfl
  · exact nc_load _
  · exact .int _
theorem p_law_standing (c : Cap bk ps) (hb : BookS bk) (q : ∀ fd : List (List Row), fd.Perm (TT bk ps ([], 0)) → Q (.lst (fd.map loadL))) : fs_law_standing [bookD bk, psD ps] Q := by
  have few := c.few
  refine sq_while (fun m δ => ∃ (fd : List (List Row)) (lf : List Nd) (s4 s5 s6 s7 : Sl), δ = [.dat (bookD bk), .dat (psD ps), .own (fd.map loadL), .own (lf.map nodeL), s4, s5, s6, s7] ∧ m = (lf.flatMap (TT bk ps)).length ∧ (fd ++ lf.flatMap (TT bk ps)).Perm (TT bk ps ([], 0)) ∧ ∀ x ∈ lf, NdOk ps x) ?_ ?_
  · exact ⟨_, [], [([], 0)], _, _, _, _, rfl, rfl, by rw [List.flatMap_cons, List.flatMap_nil, List.append_nil]; exact .refl _, fun x hx => by
      rw [List.mem_singleton.mp hx]
      exact NdOk.root⟩
  · rintro m δ ⟨fd, lf, s4, s5, s6, s7, rfl, em, pm, hok⟩
    have tl := TT_len c ([], 0)
    have pl := pm.length_eq
    rw [List.length_append] at pl
    have nc : Nc 4 (.lst (lf.map nodeL)) := .lst (mem_map_all nc_nodeL)
    refine ⟨_, ev_nilO (i := 3) rfl nc, fun ne => ?_, fun ne => ?_⟩
    rotate_left
    · cases lf with
      | nil =>
        rw [List.flatMap_nil, List.append_nil] at pm
        exact q fd pm
      | cons y r => cases ne
    rcases List.eq_nil_or_concat lf with e | ⟨xs, x, e⟩
    · subst e
      cases ne
    · have e : lf = xs ++ [x] := by rw [e, List.concat_eq_append]
      subst e
      have ox := hok x (List.mem_append_right _ (List.mem_singleton.mpr rfl))
      have xlen := ox.g.len
      have xf := ox.f
      have ll : (xs ++ [x]).length ≤ 1024 := by
        have h1 := flat_len c (xs ++ [x]) fun y hy => (hok y hy).t
        omega
      have fl2 : fd.length ≤ 1024 := by omega
      have xsl : xs.length ≤ 1024 := by
        rw [List.length_append] at ll
        omega
      refine sq_pop (i := 3) (d := nodeL x) (es := xs.map nodeL) rfl (by rw [List.map_append]; rfl) (δ2 := [.dat (bookD bk), .dat (psD ps), .own (fd.map loadL), .own (xs.map nodeL), .dat (loadL x.1), .dat (natD x.2), s6, s7]) (fun P k => k) ?_
      refine sq_append (i := 2) (d := loadL x.1) (ds := fd.map loadL) (fun P k => k) rfl (by rw [List.length_map]; omega) ?_
      have e2 : fd.map loadL ++ [loadL x.1] = (fd ++ [x.1]).map loadL := by rw [List.map_append]; rfl
      rw [e2]
      refine for_by natD (List.range' x.2 (ps.length - x.2)) (fun r δ => ∃ (dn : List Nat) (s6 s7 : Sl), List.range' x.2 (ps.length - x.2) = dn ++ r ∧ δ = [.dat (bookD bk), .dat (psD ps), .own ((fd ++ [x.1]).map loadL), .own ((xs ++ dn.filterMap (kidAt bk ps x.1)).map nodeL), .dat (loadL x.1), .dat (natD x.2), s6, s7])
        (ev_rg2 (i := 5) (j := 1) (δ := [.dat (bookD bk), .dat (psD ps), .own ((fd ++ [x.1]).map loadL), .own (xs.map nodeL), .dat (loadL x.1), .dat (natD x.2), s6, s7]) rfl rfl (by omega) (by omega)) ⟨[], s6, s7, rfl, by rw [List.filterMap_nil, List.append_nil]⟩ ?_ ?_
      · rintro n r δ ⟨dn, s6, s7, er, rfl⟩
        have hn : n < ps.length := by
          have h1 : n ∈ List.range' x.2 (ps.length - x.2) := by rw [er]; exact List.mem_append_right _ List.mem_cons_self
          have := (List.mem_range'_1.mp h1).2
          omega
        have hp : ps[n]? = some ps[n] := List.getElem?_eq_getElem hn
        have klen : (xs ++ dn.filterMap (kidAt bk ps x.1)).length < 90000 := by
          have h1 := List.length_filterMap_le (kidAt bk ps x.1) dn
          have h2 := congrArg List.length er
          rw [List.length_append, List.length_range'] at h2
          rw [List.length_append]
          omega
        have gp := ox.g.plus (List.mem_of_getElem? hp)
        have gl := gp.len
        refine ⟨[.dat (bookD bk), .dat (psD ps), .own ((fd ++ [x.1]).map loadL), .own ((xs ++ dn.filterMap (kidAt bk ps x.1)).map nodeL), .dat (loadL x.1), .dat (natD x.2), .dat (natD n), s7], fun P k => k, ?_⟩
        refine sq_set (i := 7) (d := loadL (plus x.1 ps[n].1 ps[n].2)) (ee_call (ea_cons (fun P k => k) (ea_cons (fst_at (pair_at rfl rfl hp)) (ea_cons (snd_at (pair_at rfl rfl hp)) ea_nil))) fun P k => p_law_more (.inl rfl) (by omega) k) ⟨_, rfl⟩ ?_
        refine st_if (b := stands bk (plus x.1 ps[n].1 ps[n].2)) (ev_tst (ee_call (ea_cons (fun P k => k) (ea_cons (fun P k => k) ea_nil)) fun P k => p_law_stands (.inl rfl) (by omega) hb k)) (fun hs => ?_) fun hs => ?_
        · refine st_append (i := 3) (d := nodeL (plus x.1 ps[n].1 ps[n].2, n)) (ds := (xs ++ dn.filterMap (kidAt bk ps x.1)).map nodeL) (ee_tup (ea_cons (fun P k => k) (ea_cons (fun P k => k) ea_nil))) rfl (by rw [List.length_map]; omega) ⟨r, rfl, dn ++ [n], .dat (natD n), .dat (loadL (plus x.1 ps[n].1 ps[n].2)), by rw [List.append_assoc]; exact er, ?_⟩
          have e3 : kidAt bk ps x.1 n = some (plus x.1 ps[n].1 ps[n].2, n) := by
            unfold kidAt
            rw [hp]
            simp only
            rw [if_pos hs]
          rw [List.filterMap_append, List.filterMap_cons, e3]
          show _ = [_, _, _, Sl.own ((xs ++ (dn.filterMap (kidAt bk ps x.1) ++ [(plus x.1 ps[n].1 ps[n].2, n)])).map nodeL), _, _, _, _]
          rw [← List.append_assoc, List.map_append (l₁ := xs ++ dn.filterMap (kidAt bk ps x.1))]
          rfl
        · refine ⟨r, rfl, dn ++ [n], .dat (natD n), .dat (loadL (plus x.1 ps[n].1 ps[n].2)), by rw [List.append_assoc]; exact er, ?_⟩
          have e3 : kidAt bk ps x.1 n = none := by
            unfold kidAt
            rw [hp]
            simp only
            rw [if_neg (by rw [hs]; exact Bool.false_ne_true)]
          rw [List.filterMap_append, List.filterMap_cons, e3, List.filterMap_nil, List.append_nil]
          rfl
      · rintro δ ⟨dn, s6, s7, er, rfl⟩
        rw [List.append_nil] at er
        rw [← er]
        have ek : (List.range' x.2 (ps.length - x.2)).filterMap (kidAt bk ps x.1) = kids bk ps x := rfl
        rw [ek]
        have et : (xs ++ [x]).flatMap (TT bk ps) = xs.flatMap (TT bk ps) ++ (x.1 :: (kids bk ps x).flatMap (TT bk ps)) := by
          rw [List.flatMap_append, List.flatMap_cons, List.flatMap_nil, List.append_nil, TT_eq c ox.t]
        have et2 : (xs ++ kids bk ps x).flatMap (TT bk ps) = xs.flatMap (TT bk ps) ++ (kids bk ps x).flatMap (TT bk ps) := List.flatMap_append
        refine ⟨((xs ++ kids bk ps x).flatMap (TT bk ps)).length, ?_, fd ++ [x.1], xs ++ kids bk ps x, _, _, _, _, rfl, rfl, ?_, fun y hy => ?_⟩
        · rw [em, et, et2, List.length_append, List.length_append, List.length_cons]
          omega
        · refine List.Perm.trans ?_ pm
          rw [et, et2, List.append_assoc]
          refine List.Perm.append_left _ ?_
          show (x.1 :: (xs.flatMap (TT bk ps) ++ (kids bk ps x).flatMap (TT bk ps))).Perm _
          exact List.perm_middle.symm
        · rcases List.mem_append.mp hy with h | h
          · exact hok y (List.mem_append_left _ h)
          · exact ox.kid h
def loadX (l : List Row) : D := match l with
  | [] => .lst []
  | r :: l => loadN (r :: l)
theorem loadX_D (l : List Row) : LoadD (loadX l) l := by
  cases l with
  | nil => exact .inl rfl
  | cons r l => exact .inr rfl
theorem loadX_ne {l : List Row} (h : l ≠ []) : loadX l = loadN l := by
  cases l with
  | nil => exact absurd rfl h
  | cons r l => rfl
theorem plus_ne (l : List Row) (o t : Int) : plus l o t ≠ [] := fun e => by
  have h := (sortR_perm (l.filter (fun r => !same o t r) ++ [(o, t, 1 + manyR l (some o) (some t))])).length_eq
  have e2 : sortR (l.filter (fun r => !same o t r) ++ [(o, t, 1 + manyR l (some o) (some t))]) = [] := e
  rw [e2, List.length_append, List.length_singleton] at h
  exact absurd h (by show ¬ 0 = _ + 1; omega)
def nodeX (x : Nd) : D := .tup [loadX x.1, natD x.2]
theorem nc_loadX (l : List Row) : Nc 2 (loadX l) := by
  cases l with
  | nil => exact nc_load []
  | cons r l => exact nc_loadN _
theorem nc_nodeX (x : Nd) : Nc 3 (nodeX x) := .tup fun d hd => by
  simp only [List.mem_cons, List.not_mem_nil, or_false] at hd
  rcases hd with rfl | rfl
  · exact nc_loadX _
  · exact .int _
theorem eqv_nil (ds : List D) : PyData.eqv (.list (D.pys ds)) (.list []) = ds.isEmpty := by
  cases ds <;> rfl
theorem ev_ne_nil {i n : Nat} {δ : DS} {ds : List D} (h : δ[i]? = some (.dat (.lst ds))) (nc : Nc n (.lst ds)) (hn : n ≤ 64 := by decide) : Ev (dTst (dOp neOp (dVar i) (dLst dNil))) δ (!ds.isEmpty) :=
  ev_tst (ee_op (x := .lst ds) (y := .lst []) (fun P k => by unfold dVar; rw [h]; exact k) (fun P k => k) fun P k => ⟨⟨nc.ok hn, (Nc.lst (n := 0) (ds := []) (fun _ z => nomatch z)).ok⟩, by
    have e : PyData.eqv (D.lst ds).py (D.lst []).py = ds.isEmpty := eqv_nil ds
    rw [e]
    exact k⟩)
theorem sq_own {u : DTS} {E : DEnds} {δ : DS} {i : Nat} (hi : ∃ s, δ[i]? = some s) (q : u E (δ.set i (.own []))) : dSeq (dSet i (dOwnL dNil)) u E δ := put_by (s := .own []) (Q := u E) hi q
theorem sq_extend {u : DTS} {E : DEnds} {δ δ1 : DS} {i : Nat} {a : DTE} {ds es : List D} (h0 : δ[i]? = some (.own ds)) (ha : ∀ P : D → DS → Prop, P (.lst es) δ1 → a δ P) (h1 : δ1[i]? = some (.own ds)) (hl : ds.length + es.length < 100000) (q : u E (δ1.set i (.own (ds ++ es)))) : dSeq (dExtend i a) u E δ := by
  show (match δ[i]? with | some (.own _) => a δ fun x δ1 => ownS i δ1 fun ds => (match x with | .lst es => ds.length + es.length < 100000 ∧ u E (δ1.set i (.own (ds ++ es))) | _ => False) | _ => False)
  rw [h0]
  refine ha _ ?_
  show (match δ1[i]? with | some (.own ds) => ds.length + es.length < 100000 ∧ u E (δ1.set i (.own (ds ++ es))) | _ => False)
  rw [h1]
  exact ⟨hl, q⟩
theorem p_standing_by (c : Cap bk ps) (hb : BookS bk) (q : ∀ tl : List (List Row), tl.Perm (std bk ps) → Q (.lst (.lst [] :: tl.map loadN))) : fs_standing_by [bookD bk, psD ps, .non] Q := by
  have few := c.few
  have troot : TT bk ps ([], 0) = [] :: std bk ps := TT_eq c (show 0 ≤ total [] from Int.le_refl _)
  have tl0 := TT_len c ([], 0)
  refine sq_while (fun m δ => ∃ (tl : List (List Row)) (la : List Nd) (s5 s6 s7 s8 s9 : Sl), δ = [.dat (bookD bk), .dat (psD ps), .dat .non, .own (([] :: tl).map loadX), .dat (.lst (la.map nodeX)), s5, s6, s7, s8, s9] ∧ (s6.isOwn = false ∧ s8.isOwn = false) ∧ m = (la.flatMap (TT bk ps)).length ∧ (tl ++ (la.flatMap (kids bk ps)).flatMap (TT bk ps)).Perm (std bk ps) ∧ (la.flatMap (TT bk ps)).length ≤ 1024 ∧ ∀ x ∈ la, NdOk ps x) ?_ ?_
  · exact ⟨_, [], [([], 0)], _, _, _, _, _, rfl, ⟨rfl, rfl⟩, rfl, by
      rw [List.flatMap_cons, List.flatMap_nil, List.append_nil]
      exact .refl _, by
      rw [List.flatMap_cons, List.flatMap_nil, List.append_nil]
      exact tl0, fun x hx => by
      rw [List.mem_singleton.mp hx]
      exact NdOk.root⟩
  · rintro m δ ⟨tl, la, s5, s6, s7, s8, s9, rfl, ⟨o6, o8⟩, em, pm, ml, hok⟩
    have nc : Nc 4 (.lst (la.map nodeX)) := .lst (mem_map_all nc_nodeX)
    have fl := flat_len c la fun x hx => (hok x hx).t
    have pl := pm.length_eq
    rw [List.length_append] at pl
    have sl : (std bk ps).length < 1024 := by
      rw [troot, List.length_cons] at tl0
      omega
    refine ⟨_, ev_ne_nil (i := 4) rfl nc, fun ne => ?_, fun ne => ?_⟩
    · have ne2 : la ≠ [] := fun z => by
        rw [z] at ne
        cases ne
      have lal : 0 < la.length := List.length_pos_iff.mpr ne2
      refine sq_own (i := 5) ⟨_, rfl⟩ ?_
      refine sq_for nodeX la (fun r δ => ∃ (dn : List Nd) (s6 s7 s8 s9 : Sl), la = dn ++ r ∧ (s6.isOwn = false ∧ s8.isOwn = false) ∧ δ = [.dat (bookD bk), .dat (psD ps), .dat .non, .own (([] :: tl).map loadX), .dat (.lst (la.map nodeX)), .own ((dn.flatMap (kids bk ps)).map nodeX), s6, s7, s8, s9]) (ei_lst (a := dVar 4) fun P k => k) ⟨[], s6, s7, s8, s9, rfl, ⟨o6, o8⟩, rfl⟩ ?_ ?_
      · rintro x r δ ⟨dn, s6, s7, s8, s9, er, ⟨o6, o8⟩, rfl⟩
        have ox : NdOk ps x := hok x (by rw [er]; exact List.mem_append_right _ List.mem_cons_self)
        have xlen := ox.g.len
        have xf := ox.f
        have dlen : (dn.flatMap (kids bk ps)).length ≤ 4000 := by
          have h1 : dn.length ≤ la.length := by rw [er, List.length_append]; omega
          have h2 : ∀ ys : List Nd, (ys.flatMap (kids bk ps)).length ≤ 3 * ys.length := fun ys => by
            induction ys with
            | nil => exact Nat.le_refl _
            | cons y ys ih =>
              rw [List.flatMap_cons, List.length_append, List.length_cons]
              have := kids_len c y
              omega
          have := h2 dn
          omega
        refine ⟨[.dat (bookD bk), .dat (psD ps), .dat .non, .own (([] :: tl).map loadX), .dat (.lst (la.map nodeX)), .own ((dn.flatMap (kids bk ps)).map nodeX), .dat (loadX x.1), .dat (natD x.2), s8, s9], fun P k => k, ?_⟩
        refine for_by natD (List.range' x.2 (ps.length - x.2)) (fun r2 δ => ∃ (dm : List Nat) (s8 s9 : Sl), List.range' x.2 (ps.length - x.2) = dm ++ r2 ∧ s8.isOwn = false ∧ δ = [.dat (bookD bk), .dat (psD ps), .dat .non, .own (([] :: tl).map loadX), .dat (.lst (la.map nodeX)), .own ((dn.flatMap (kids bk ps) ++ dm.filterMap (kidAt bk ps x.1)).map nodeX), .dat (loadX x.1), .dat (natD x.2), s8, s9])
          (ev_rg2 (i := 7) (j := 1) rfl rfl (by omega) (by omega)) ⟨[], s8, s9, rfl, o8, by rw [List.filterMap_nil, List.append_nil]⟩ ?_ ?_
        · rintro n r2 δ ⟨dm, s8, s9, er2, o8, rfl⟩
          have hn : n < ps.length := by
            have h1 : n ∈ List.range' x.2 (ps.length - x.2) := by rw [er2]; exact List.mem_append_right _ List.mem_cons_self
            have := (List.mem_range'_1.mp h1).2
            omega
          have hp : ps[n]? = some ps[n] := List.getElem?_eq_getElem hn
          have klen : (dn.flatMap (kids bk ps) ++ dm.filterMap (kidAt bk ps x.1)).length < 90000 := by
            have h1 := List.length_filterMap_le (kidAt bk ps x.1) dm
            have h2 := congrArg List.length er2
            rw [List.length_append, List.length_range'] at h2
            rw [List.length_append]
            omega
          have gp := ox.g.plus (List.mem_of_getElem? hp)
          have gl := gp.len
          have ex : loadN (plus x.1 ps[n].1 ps[n].2) = loadX (plus x.1 ps[n].1 ps[n].2) := (loadX_ne (plus_ne _ _ _)).symm
          refine ⟨[.dat (bookD bk), .dat (psD ps), .dat .non, .own (([] :: tl).map loadX), .dat (.lst (la.map nodeX)), .own ((dn.flatMap (kids bk ps) ++ dm.filterMap (kidAt bk ps x.1)).map nodeX), .dat (loadX x.1), .dat (natD x.2), .dat (natD n), s9], fun P k => k, ?_⟩
          refine sq_set (i := 9) (d := loadX (plus x.1 ps[n].1 ps[n].2)) (ee_call (ea_cons (fun P k => k) (ea_cons (fst_at (pair_at rfl rfl hp)) (ea_cons (snd_at (pair_at rfl rfl hp)) ea_nil))) fun P k => p_plus_cart (loadX_D _) (by omega) (by rw [ex]; exact k)) ⟨_, rfl⟩ ?_
          refine st_if (b := stands bk (plus x.1 ps[n].1 ps[n].2)) (ev_tst (ee_call (ea_cons (fun P k => k) (ea_cons (fun P k => k) ea_nil)) fun P k => p_stands_by (loadX_D _) (by omega) hb k)) (fun hs => ?_) fun hs => ?_
          · refine st_append (i := 5) (d := nodeX (plus x.1 ps[n].1 ps[n].2, n)) (ds := (dn.flatMap (kids bk ps) ++ dm.filterMap (kidAt bk ps x.1)).map nodeX) (ee_tup (ea_cons (fun P k => k) (ea_cons (fun P k => k) ea_nil))) rfl (by rw [List.length_map]; omega) ⟨r2, rfl, dm ++ [n], .dat (natD n), .dat (loadX (plus x.1 ps[n].1 ps[n].2)), by rw [List.append_assoc]; exact er2, rfl, ?_⟩
            have e3 : kidAt bk ps x.1 n = some (plus x.1 ps[n].1 ps[n].2, n) := by
              unfold kidAt
              rw [hp]
              simp only
              rw [if_pos hs]
            rw [List.filterMap_append, List.filterMap_cons, e3]
            show _ = [_, _, _, _, _, Sl.own ((dn.flatMap (kids bk ps) ++ (dm.filterMap (kidAt bk ps x.1) ++ [(plus x.1 ps[n].1 ps[n].2, n)])).map nodeX), _, _, _, _]
            rw [← List.append_assoc, List.map_append (l₁ := dn.flatMap (kids bk ps) ++ dm.filterMap (kidAt bk ps x.1))]
            rfl
          · refine ⟨r2, rfl, dm ++ [n], .dat (natD n), .dat (loadX (plus x.1 ps[n].1 ps[n].2)), by rw [List.append_assoc]; exact er2, rfl, ?_⟩
            have e3 : kidAt bk ps x.1 n = none := by
              unfold kidAt
              rw [hp]
              simp only
              rw [if_neg (by rw [hs]; exact Bool.false_ne_true)]
            rw [List.filterMap_append, List.filterMap_cons, e3, List.filterMap_nil, List.append_nil]
            rfl
        · rintro δ ⟨dm, s8, s9, er2, o8, rfl⟩
          rw [List.append_nil] at er2
          rw [← er2]
          refine ⟨r, rfl, dn ++ [x], .dat (loadX x.1), .dat (natD x.2), s8, s9, by rw [List.append_assoc]; exact er, ⟨rfl, o8⟩, ?_⟩
          rw [List.flatMap_append, List.flatMap_cons, List.flatMap_nil, List.append_nil]
          rfl
      · rintro δ ⟨dn, s6, s7, s8, s9, er, ⟨o6, o8⟩, rfl⟩
        rw [List.append_nil] at er
        subst er
        have kl : (la.flatMap (kids bk ps)).length ≤ 1024 := by
          have h1 := flat_len c (la.flatMap (kids bk ps)) fun y hy => by
            obtain ⟨x, hx, hy⟩ := List.mem_flatMap.mp hy
            exact ((hok x hx).kid hy).t
          omega
        refine sq_extend (i := 3) (ds := ([] :: tl).map loadX) (es := (la.flatMap (kids bk ps)).map fun x => loadX x.1) (δ1 := [.dat (bookD bk), .dat (psD ps), .dat .non, .own (([] :: tl).map loadX), .dat (.lst (la.map nodeX)), .dat (.lst ((la.flatMap (kids bk ps)).map nodeX)), s6, s7, s8, s9]) rfl (fun P k => ?_) rfl (by rw [List.length_map, List.length_map, List.length_cons]; omega) ?_
        · refine (⟨?_, ?_, ?_⟩ : noOwn [.dat (bookD bk), .dat (psD ps), .dat .non, .own (([] :: tl).map loadX), .dat (.lst (la.map nodeX)), .dat (.lst ((la.flatMap (kids bk ps)).map nodeX)), s6, s7, s8, s9] [6, 8] = true ∧ ((la.flatMap (kids bk ps)).map nodeX).length < 100000 ∧ dLcL (gTp (gCn (gNm 6) (gCn (gNm 8) gNl))) dYes (dVar 6) [6, 8] [.dat (bookD bk), .dat (psD ps), .dat .non, .own (([] :: tl).map loadX), .dat (.lst (la.map nodeX)), .dat (.lst ((la.flatMap (kids bk ps)).map nodeX)), s6, s7, s8, s9] (fun acc => P (.lst acc) [.dat (bookD bk), .dat (psD ps), .dat .non, .own (([] :: tl).map loadX), .dat (.lst (la.map nodeX)), .dat (.lst ((la.flatMap (kids bk ps)).map nodeX)), s6, s7, s8, s9]) ((la.flatMap (kids bk ps)).map nodeX) [])
          · show ((!s6.isOwn) && ((!s8.isOwn) && true)) = true
            rw [o6, o8]
            rfl
          · rw [List.length_map]
            omega
          · refine lcL_turn nodeX (fun _ => true) (fun x => loadX x.1) _ _ (fun x _ => ⟨_, fun P k => k, rfl, fun P k => k, fun _ P k => k⟩) ?_
            rw [List.filter_eq_self.mpr fun _ _ => rfl]
            exact k
        · refine sq_if (b := false) (fun P k => k) (fun z => nomatch z) fun _ => sq_next ?_
          refine ⟨((la.flatMap (kids bk ps)).flatMap (TT bk ps)).length, by omega, tl ++ (la.flatMap (kids bk ps)).map (·.1), la.flatMap (kids bk ps), .dat (.lst ((la.flatMap (kids bk ps)).map nodeX)), s6, s7, s8, s9, ?_, ⟨o6, o8⟩, rfl, ?_, by omega, fun y hy => ?_⟩
          · have e : ([] :: (tl ++ (la.flatMap (kids bk ps)).map (·.1))).map loadX = ([] :: tl).map loadX ++ (la.flatMap (kids bk ps)).map fun x => loadX x.1 := by
              rw [List.map_cons, List.map_append, List.map_map, List.map_cons]
              rfl
            rw [e]
            rfl
          · refine List.Perm.trans ?_ pm
            rw [List.append_assoc]
            refine List.Perm.append_left _ (flat_TT c _ fun y hy => ?_).symm
            obtain ⟨x, hx, hy⟩ := List.mem_flatMap.mp hy
            exact ((hok x hx).kid hy).t
          · obtain ⟨x, hx, hy⟩ := List.mem_flatMap.mp hy
            exact (hok x hx).kid hy
    · cases la with
      | cons y r => cases ne
      | nil =>
        have pm2 : tl.Perm (std bk ps) := by
          rw [List.flatMap_nil, List.flatMap_nil, List.append_nil] at pm
          exact pm
        have e : ([] :: tl).map loadX = .lst [] :: tl.map loadN := by
          rw [List.map_cons]
          exact congrArg (D.lst [] :: ·) (List.map_congr_left fun l hl => loadX_ne (std_ne (pm2.mem_iff.mp hl)))
        have q2 := q tl pm2
        rw [← e] at q2
        exact q2
end
end K26
set_option Elab.async false
set_option linter.all false
set_option maxRecDepth 100000
set_option maxHeartbeats 1000000
namespace K26
open PySem PySem.Spec PyProof.Rows L2
/-! ## pairs, loads towards a target, the heaviest -/
def intsD (r : List Int) : D := .lst (r.map D.int)
theorem nc_intsD (r : List Int) : Nc 1 (intsD r) := .lst (mem_map_all .int)
def pairsOf (near : List Int) : List (Int × Int) := near.flatMap fun o => (near.filter fun t => !(t == o)).map fun t => (o, t)
def tgt (near : List Int) (t : Int) : List (Int × Int) := (near.filter fun o => !(o == t)).map fun o => (o, t)
theorem tgt_eq {near : List Int} {t : Int} (nd : near.Nodup) (ht : t ∈ near) : (pairsOf near).filter (fun p => p.2 == t) = tgt near t := by
  have one : ∀ o : Int, ((near.filter fun t => !(t == o)).map fun t => (o, t)).filter (fun p => p.2 == t) = if (!(o == t)) = true then [(o, t)] else [] := fun o => by
    have key : ∀ ns : List Int, ns.Nodup → ((ns.filter fun t => !(t == o)).map fun t => (o, t)).filter (fun p => p.2 == t) = if t ∈ ns ∧ (!(o == t)) = true then [(o, t)] else [] := fun ns => by
      induction ns with
      | nil => intro _; rfl
      | cons x ns ih =>
        intro h
        obtain ⟨h1, h2⟩ := List.nodup_cons.mp h
        rw [List.filter_cons]
        by_cases e : x = t
        · subst e
          by_cases e2 : x = o
          · subst e2
            rw [if_neg (by simp), ih h2, if_neg (by simp), if_neg (by simp)]
          · rw [if_pos (by simp [e2]), List.map_cons, List.filter_cons, if_pos (by simp), ih h2, if_neg (fun z => h1 z.1), if_pos ⟨List.mem_cons_self, by rw [Bool.not_eq_true', beq_eq_false_iff_ne]; exact fun z => e2 z.symm⟩]
        · have e3 : (t ∈ x :: ns ∧ (!(o == t)) = true) ↔ (t ∈ ns ∧ (!(o == t)) = true) := by
            rw [List.mem_cons]
            exact ⟨fun ⟨a, b⟩ => ⟨a.resolve_left fun z => e z.symm, b⟩, fun ⟨a, b⟩ => ⟨.inr a, b⟩⟩
          by_cases e2 : x = o
          · rw [if_neg (by simp [e2]), ih h2]
            simp only [e3]
          · rw [if_pos (by simp [e2]), List.map_cons, List.filter_cons, if_neg (by simp [e]), ih h2]
            simp only [e3]
    rw [key near nd]
    by_cases e : (!(o == t)) = true
    · rw [if_pos ⟨ht, e⟩, if_pos e]
    · rw [if_neg (fun z => e z.2), if_neg e]
  have gen : ∀ ns : List Int, (ns.flatMap fun o => (near.filter fun t => !(t == o)).map fun t => (o, t)).filter (fun p => p.2 == t) = (ns.filter fun o => !(o == t)).map fun o => (o, t) := fun ns => by
    induction ns with
    | nil => rfl
    | cons x ns ih =>
      rw [List.flatMap_cons, List.filter_append, ih, one, List.filter_cons]
      split <;> rfl
  exact gen near
theorem tgt_nd {near : List Int} {t : Int} (nd : near.Nodup) : (tgt near t).Nodup := by
  refine List.pairwise_map.mpr ?_
  exact (nd.filter _).imp fun h z => h (congrArg (fun p : Int × Int => p.1) z)
theorem tgt_len {near : List Int} {t : Int} (nd : near.Nodup) (ht : t ∈ near) : (tgt near t).length + 1 = near.length := by
  unfold tgt
  rw [List.length_map]
  have key : ∀ ns : List Int, ns.Nodup → t ∈ ns → (ns.filter fun o => !(o == t)).length + 1 = ns.length := fun ns => by
    induction ns with
    | nil => intro _ h; cases h
    | cons x ns ih =>
      intro h hm
      obtain ⟨h1, h2⟩ := List.nodup_cons.mp h
      rw [List.filter_cons]
      by_cases e : x = t
      · subst e
        have all : ns.filter (fun o => !(o == x)) = ns := List.filter_eq_self.mpr fun a ha => by
          have : a ≠ x := fun z => h1 (z ▸ ha)
          simp [this]
        rw [if_neg (by simp), all, List.length_cons]
      · rw [if_pos (by simp [e]), List.length_cons, List.length_cons, ih h2 ((List.mem_cons.mp hm).resolve_left fun z => e z.symm)]
  exact key near nd ht
theorem tgt_mem {near : List Int} {t : Int} {p : Int × Int} (h : p ∈ tgt near t) : p.2 = t ∧ p.1 ∈ near ∧ p.1 ≠ t := by
  obtain ⟨o, ho, rfl⟩ := List.mem_map.mp h
  obtain ⟨h1, h2⟩ := List.mem_filter.mp ho
  exact ⟨rfl, h1, by simpa using h2⟩
section
variable {near : List Int} {Q : D → Prop} {d : D} {l : List Row} {bk : List Alt} {ps : List (Int × Int)}
theorem ne_int (a b : Int) (P : D → Prop) (h : P (.bl (!(a == b)))) : neOp (.int a) (.int b) P := ⟨⟨(Nc.int (n := 0) a).ok, (Nc.int (n := 0) b).ok⟩, by
  have e : PyData.eqv (D.int a).py (D.int b).py = (a == b) := by
    show PyData.eqv (.int a) (.int b) = _
    simp [PyData.eqv]
  rw [e]
  exact h⟩
theorem eq_int (a b : Int) (P : D → Prop) (h : P (.bl (a == b))) : eqOp (.int a) (.int b) P := ⟨⟨(Nc.int (n := 0) a).ok, (Nc.int (n := 0) b).ok⟩, by
  have e : PyData.eqv (D.int a).py (D.int b).py = (a == b) := by
    show PyData.eqv (.int a) (.int b) = _
    simp [PyData.eqv]
  rw [e]
  exact h⟩
theorem pairs_len (near : List Int) : ∀ ns : List Int, (ns.flatMap fun o => (near.filter fun t => !(t == o)).map fun t => (o, t)).length ≤ ns.length * near.length
  | [] => by simp
  | x :: ns => by
    rw [List.flatMap_cons, List.length_append, List.length_map, List.length_cons, Nat.succ_mul]
    have h1 := List.length_filter_le (fun t => !(t == x)) near
    have h2 := pairs_len near ns
    omega
theorem v_at {i : Nat} {δ : DS} {d : D} (h : δ[i]? = some (.dat d)) : EvE (dVar i) δ d := fun P k => by
  unfold dVar
  rw [h]
  exact k
theorem p_law_pairs (hn : near.length ≤ 10) (q : Q (psD (pairsOf near))) : fs_law_pairs [intsD near] Q := by
  refine sq_set (i := 1) (d := .lst []) (fun P k => k) ⟨_, rfl⟩ ?_
  refine sq_for D.int near (fun r δ => ∃ (dn : List Int) (s2 : Sl), near = dn ++ r ∧ δ = [.dat (intsD near), .dat (psD (dn.flatMap fun o => (near.filter fun t => !(t == o)).map fun t => (o, t))), s2, .no]) (ei_lst (a := dVar 0) fun P k => k) ⟨[], _, rfl, rfl⟩ ?_ ?_
  · rintro o r δ ⟨dn, s2, e, rfl⟩
    have pl := pairs_len near dn
    have dl : dn.length ≤ near.length := by rw [e, List.length_append]; omega
    have pm : dn.length * near.length ≤ 100 := Nat.le_trans (Nat.mul_le_mul dl (Nat.le_refl _)) (Nat.le_trans (Nat.mul_le_mul hn hn) (by decide))
    refine ⟨[.dat (intsD near), .dat (psD (dn.flatMap fun o => (near.filter fun t => !(t == o)).map fun t => (o, t))), .dat (.int o), .no], fun P k => k, ?_⟩
    refine st_set (i := 1) (d := psD ((dn ++ [o]).flatMap fun o => (near.filter fun t => !(t == o)).map fun t => (o, t))) (ee_op (x := psD (dn.flatMap fun o => (near.filter fun t => !(t == o)).map fun t => (o, t))) (y := .lst ((near.filter fun t => !(t == o)).map fun t => pairD (o, t))) (fun P k => k) (ee_lc D.int (fun t => !(t == o)) (fun t => pairD (o, t)) near (ei_lst (a := dVar 0) fun P k => k) rfl (by omega) fun t _ => ⟨_, fun P k => k, rfl, ev_tst (ee_op (fun P k => k) (fun P k => k) (ne_int t o)), fun _ P k => k⟩) fun P k => ?_) ⟨_, rfl⟩ ⟨r, rfl, dn ++ [o], .dat (.int o), by rw [List.append_assoc]; exact e, rfl⟩
    have fl := List.length_filter_le (fun t => !(t == o)) near
    refine ⟨by rw [List.length_map, List.length_map]; omega, ?_⟩
    rw [List.flatMap_append, List.flatMap_cons, List.flatMap_nil, List.append_nil] at k
    have e2 : (dn.flatMap fun o => (near.filter fun t => !(t == o)).map fun t => (o, t)).map pairD ++ (near.filter fun t => !(t == o)).map (fun t => pairD (o, t)) = ((dn.flatMap fun o => (near.filter fun t => !(t == o)).map fun t => (o, t)) ++ (near.filter fun t => !(t == o)).map fun t => (o, t)).map pairD := by
      rw [List.map_append, List.map_map]
      rfl
    rw [e2]
    exact k
  · rintro δ ⟨dn, s2, e, rfl⟩
    rw [List.append_nil] at e
    subst e
    exact q
/-- the loads towards a target, sorted; those of them that are heaviest -/
def LL (bk : List Alt) (ps : List (Int × Int)) : List (List Row) := sortL (std bk ps)
def HH (bk : List Alt) (ps : List (Int × Int)) : List (List Row) := (LL bk ps).filter (refused bk ps)
theorem LL_perm : (LL bk ps).Perm (std bk ps) := srt_perm
theorem LL_mem {x : List Row} : x ∈ LL bk ps ↔ x ∈ std bk ps := LL_perm.mem_iff
theorem std_len (c : Cap bk ps) : (std bk ps).length < 1024 := by
  have h := TT_len c ([], 0)
  have e : TT bk ps ([], 0) = [] :: std bk ps := TT_eq c (show 0 ≤ total [] from Int.le_refl _)
  rw [e, List.length_cons] at h
  omega
theorem pairs_of_target (hn : near.length ≤ 10) {P : D → Prop} (t : Int) {w : DTI} {δ : DS} {i j : Nat} (hw : EvI w δ ((pairsOf near).map pairD)) (no : noOwn δ [j] = true) (hj : ∀ δ2 d, δ2 = (wipeD δ [j]).set j (.dat d) → (∀ P : DS → Prop, P δ2 → gNm j d (wipeD δ [j]) P) ∧ wipeD δ2 [j] = wipeD δ [j] ∧ δ2[j]? = some (.dat d) ∧ δ2[i]? = some (.dat (.int t))) :
    EvE (dLc w (gNm j) (dTst (dOp eqOp (dOp ixOp (dVar j) (dC (.int 1))) (dVar i))) (dVar j) [j]) δ (psD ((pairsOf near).filter fun p => p.2 == t)) := by
  have pl := pairs_len near near
  have pm : near.length * near.length ≤ 100 := Nat.le_trans (Nat.mul_le_mul hn hn) (by decide)
  refine ee_lc pairD (fun p => p.2 == t) pairD (pairsOf near) hw no (by show (near.flatMap _).length < _; omega) fun p _ => ?_
  obtain ⟨h1, h2, h3, h4⟩ := hj _ (pairD p) rfl
  exact ⟨_, h1, h2, ev_tst (ee_op (snd_at (v_at h3)) (v_at h4) (eq_int p.2 t)), fun _ => v_at h3⟩
theorem p_law_towards {t : Int} (hn : near.length ≤ 10) (c : Cap bk (tgt near t)) (hb : BookS bk) (nd : near.Nodup) (ht : t ∈ near) (q : Q (.lst ((LL bk (tgt near t)).map loadL))) : fs_law_towards [bookD bk, intsD near, .int t] Q := by
  have troot : TT bk (tgt near t) ([], 0) = [] :: std bk (tgt near t) := TT_eq c (show 0 ≤ total [] from Int.le_refl _)
  have tl0 := TT_len c ([], 0)
  refine sq_set (i := 3) (d := psD ((pairsOf near).filter fun p => p.2 == t)) (pairs_of_target (P := fun _ => True) hn t (i := 2) (j := 4) (ei_lst (ee_call (ea_cons (fun P k => k) ea_nil) fun P k => p_law_pairs hn k)) rfl fun δ2 d e => by
    subst e
    exact ⟨fun P k => k, rfl, rfl, rfl⟩) ⟨_, rfl⟩ ?_
  rw [tgt_eq nd ht]
  have main : ∀ fd : List (List Row), fd.Perm (TT bk (tgt near t) ([], 0)) → ∀ P : D → Prop, P (.lst ((LL bk (tgt near t)).map loadL)) → dCB sortedD (dCons (dLc (dItL (dC (.lst (fd.map loadL)))) (gNm 5) (dTst (dOp neOp (dVar 5) (dLst dNil))) (dVar 5) [5]) dNil) [.dat (bookD bk), .dat (intsD near), .dat (.int t), .dat (psD (tgt near t)), .no, .no] (fun d _ => P d) := fun fd pm P h => by
    have fdl : fd.length ≤ 1024 := by rw [pm.length_eq]; exact tl0
    refine ee_cb (ea_cons (ee_lc loadL (fun x => !x.isEmpty) loadL fd (ei_lst (a := dC (.lst (fd.map loadL))) fun P k => k) rfl (by omega) fun x _ => ⟨[.dat (bookD bk), .dat (intsD near), .dat (.int t), .dat (psD (tgt near t)), .no, .dat (loadL x)], fun P k => k, rfl, ?_, fun _ P k => k⟩) ea_nil) (fun P k => ⟨sok_L _ (by have := List.length_filter_le (fun x : List Row => !x.isEmpty) fd; omega), k⟩) _ ?_
    · have e := ev_ne_nil (i := 5) (δ := [.dat (bookD bk), .dat (intsD near), .dat (.int t), .dat (psD (tgt near t)), .no, .dat (.lst (x.map rowD))]) rfl (nc_load x)
      have e2 : (x.map rowD).isEmpty = x.isEmpty := by cases x <;> rfl
      rw [e2] at e
      exact e
    · rw [sortD_L]
      have e3 : sortL (fd.filter fun x => !x.isEmpty) = LL bk (tgt near t) := sortL_uniq ((pm.filter _).trans (by
        rw [troot, List.filter_cons, if_neg (by simp)]
        have e4 : (std bk (tgt near t)).filter (fun x => !x.isEmpty) = std bk (tgt near t) := List.filter_eq_self.mpr fun a ha => by
          have := std_ne ha
          cases a with
          | nil => exact absurd rfl this
          | cons r l => rfl
        rw [e4]))
      rw [e3]
      exact h
  exact p_law_standing c hb fun fd pm => main fd pm _ q
def gR (bk : List Alt) (l : List Row) (p : Int × Int) : Bool := stands bk (plus l p.1 p.2)
theorem any_gR (P : D → Prop) (k : P (.bl (ps.any (gR bk l)))) : anyD [.lst (ps.map fun p => .bl (gR bk l p))] P := any_bls (gR bk l) ps P k
theorem any_pl (P : D → Prop) (k : P (.bl (ps.any fun p => stands bk (plus l p.1 p.2)))) : anyD [.lst (ps.map fun p => .bl (stands bk (plus l p.1 p.2)))] P := any_gR P k
theorem ee_ref (hb : BookS bk) (h : LoadD d l) (hl : l.length < 90000) {p : Int × Int} (gl : (plus l p.1 p.2).length < 100000) : EvE (dCall fs_stands_by [] (dCons (dVar 0) (dCons (dCall fs_plus_cart [] (dCons (dVar 1) (dCons (dVar 3) (dCons (dVar 4) dNil)))) dNil))) [.dat (bookD bk), .dat d, .dat (psD ps), .dat (.int p.1), .dat (.int p.2)] (.bl (stands bk (plus l p.1 p.2))) :=
  ee_call (ds := [bookD bk, loadN (plus l p.1 p.2)]) (ea_cons (v_at rfl) (ea_cons (ee_call (ds := [d, .int p.1, .int p.2]) (ea_cons (v_at rfl) (ea_cons (v_at rfl) (ea_cons (v_at rfl) ea_nil))) fun P k => p_plus_cart h hl k) ea_nil)) fun P k => p_stands_by (.inr rfl) gl hb k
theorem p_are_refused (c : Cap bk ps) (hb : BookS bk) (h : LoadD d l) (hl : l.length < 90000) (g : Good ps l) (q : Q (.bl (refused bk ps l))) : fs_are_refused [bookD bk, d, psD ps] Q := by
  have few := c.few
  have gl : ∀ p ∈ ps, (plus l p.1 p.2).length < 100000 := fun p hp => by
    have := (g.plus hp).len
    omega
  have e1 : EvE (dLc (dItL (dVar 2)) (gTp (gCn (gNm 3) (gCn (gNm 4) gNl))) dYes (dCall fs_stands_by [] (dCons (dVar 0) (dCons (dCall fs_plus_cart [] (dCons (dVar 1) (dCons (dVar 3) (dCons (dVar 4) dNil)))) dNil))) [3, 4]) [.dat (bookD bk), .dat d, .dat (psD ps), .no, .no] (.lst (ps.map fun p => .bl (stands bk (plus l p.1 p.2)))) :=
    ee_lc1 pairD (fun p => .bl (stands bk (plus l p.1 p.2))) ps (ei_lst (v_at rfl)) rfl (by omega) fun p hp => ⟨[.dat (bookD bk), .dat d, .dat (psD ps), .dat (.int p.1), .dat (.int p.2)], fun P k => k, rfl, fun P k => k, fun _ => ee_ref hb h hl (gl p hp)⟩
  unfold refused at q
  have e2 : EvE (dCB anyD (dCons (dLc (dItL (dVar 2)) (gTp (gCn (gNm 3) (gCn (gNm 4) gNl))) dYes (dCall fs_stands_by [] (dCons (dVar 0) (dCons (dCall fs_plus_cart [] (dCons (dVar 1) (dCons (dVar 3) (dCons (dVar 4) dNil)))) dNil))) [3, 4]) dNil)) [.dat (bookD bk), .dat d, .dat (psD ps), .no, .no] (.bl (ps.any fun p => stands bk (plus l p.1 p.2))) :=
    ee_cb (ea_cons e1 ea_nil) any_pl
  exact st_ret (δ := [.dat (bookD bk), .dat d, .dat (psD ps), .no, .no]) (ee_not e2) q
theorem any_tgt (near : List Int) (t : Int) (f : Int → Bool) : (near.filter fun o => !(o == t)).any f = (tgt near t).any fun p => f p.1 := by
  unfold tgt
  rw [List.any_map]
  rfl
theorem p_law_heaviest {t : Int} (hn : near.length ≤ 10) (c : Cap bk (tgt near t)) (hb : BookS bk) (nd : near.Nodup) (ht : t ∈ near) (q : Q (.lst ((HH bk (tgt near t)).map loadL))) : fs_law_heaviest [bookD bk, intsD near, .int t] Q := by
  have few := c.few
  have ll : (LL bk (tgt near t)).length < 1024 := by rw [LL_perm.length_eq]; exact std_len c
  refine sq_own (δ := [.dat (bookD bk), .dat (intsD near), .dat (.int t), .no, .no, .no, .no]) (i := 3) ⟨_, rfl⟩ ?_
  refine sq_for loadL (LL bk (tgt near t)) (fun r δ => ∃ (dn : List (List Row)) (s4 s5 : Sl), LL bk (tgt near t) = dn ++ r ∧ δ = [.dat (bookD bk), .dat (intsD near), .dat (.int t), .own ((dn.filter (refused bk (tgt near t))).map loadL), s4, s5, .no])
    (ei_lst (ee_call (ea_cons (fun P k => k) (ea_cons (fun P k => k) (ea_cons (fun P k => k) ea_nil))) fun P k => p_law_towards hn c hb nd ht k)) ⟨[], _, _, rfl, rfl⟩ ?_ ?_
  · rintro x r δ ⟨dn, s4, s5, e, rfl⟩
    have xm : x ∈ std bk (tgt near t) := LL_mem.mp (by rw [e]; exact List.mem_append_right _ List.mem_cons_self)
    have gx := (std_mem xm).1
    have xl := gx.len
    have dl : (dn.filter (refused bk (tgt near t))).length < 1024 := by
      have h1 := List.length_filter_le (refused bk (tgt near t)) dn
      have h2 := congrArg List.length e
      rw [List.length_append] at h2
      omega
    refine ⟨[.dat (bookD bk), .dat (intsD near), .dat (.int t), .own ((dn.filter (refused bk (tgt near t))).map loadL), .dat (loadL x), s5, .no], fun P k => k, ?_⟩
    refine sq_set (i := 5) (d := .lst ((near.filter fun o => !(o == t)).map fun o => .bl (stands bk (plus x o t)))) (ee_lc D.int (fun o => !(o == t)) (fun o => .bl (stands bk (plus x o t))) near (ei_lst (a := dVar 1) fun P k => k) rfl (by omega) fun o ho => ⟨_, fun P k => k, rfl, ev_tst (ee_op (fun P k => k) (fun P k => k) (ne_int o t)), fun hne => ee_call (ea_cons (fun P k => k) (ea_cons (ee_call (ea_cons (fun P k => k) (ea_cons (fun P k => k) (ea_cons (fun P k => k) ea_nil))) fun P k => p_law_more (.inl rfl) (by omega) k) ea_nil)) fun P k => p_law_stands (.inl rfl) ?_ hb k⟩) ⟨_, rfl⟩ ?_
    · have : (plus x o t).length ≤ (tgt near t).length := (gx.plus (p := (o, t)) (List.mem_map.mpr ⟨o, List.mem_filter.mpr ⟨ho, hne⟩, rfl⟩)).len
      omega
    · refine st_if (b := refused bk (tgt near t) x) ?_ (fun hr => ?_) fun hr => ?_
      · have e5 : refused bk (tgt near t) x = !((near.filter fun o => !(o == t)).any fun o => stands bk (plus x o t)) := by
          unfold refused
          have h1 := any_tgt near t fun o => stands bk (plus x o t)
          have h2 : (tgt near t).any (fun p => stands bk (plus x p.1 p.2)) = (tgt near t).any fun p => stands bk (plus x p.1 t) := by
            have key : ∀ qs : List (Int × Int), (∀ p ∈ qs, p.2 = t) → qs.any (fun p => stands bk (plus x p.1 p.2)) = qs.any fun p => stands bk (plus x p.1 t) := fun qs => by
              induction qs with
              | nil => intro _; rfl
              | cons p qs ih =>
                intro h
                rw [List.any_cons, List.any_cons, ih fun y hy => h y (List.mem_cons_of_mem _ hy), h p List.mem_cons_self]
            exact key _ fun p hp => (tgt_mem hp).1
          rw [h1, h2]
        rw [e5]
        exact ev_not (ev_tst (ee_cb (ea_cons (fun P k => k) ea_nil) (any_bls (fun o => stands bk (plus x o t)) (near.filter fun o => !(o == t)))))
      · refine st_append (i := 3) (d := loadL x) (ds := (dn.filter (refused bk (tgt near t))).map loadL) (fun P k => k) rfl (by rw [List.length_map]; omega) ⟨r, rfl, dn ++ [x], .dat (loadL x), .dat (.lst ((near.filter fun o => !(o == t)).map fun o => .bl (stands bk (plus x o t)))), by rw [List.append_assoc]; exact e, ?_⟩
        have e6 : (dn ++ [x]).filter (refused bk (tgt near t)) = dn.filter (refused bk (tgt near t)) ++ [x] := by
          rw [List.filter_append, List.filter_cons, hr]
          rfl
        rw [e6, List.map_append]
        rfl
      · refine ⟨r, rfl, dn ++ [x], .dat (loadL x), .dat (.lst ((near.filter fun o => !(o == t)).map fun o => .bl (stands bk (plus x o t)))), by rw [List.append_assoc]; exact e, ?_⟩
        have e6 : (dn ++ [x]).filter (refused bk (tgt near t)) = dn.filter (refused bk (tgt near t)) := by
          rw [List.filter_append, List.filter_cons, hr]
          exact List.append_nil _
        rw [e6]
        rfl
  · rintro δ ⟨dn, s4, s5, e, rfl⟩
    rw [List.append_nil] at e
    subst e
    exact q
/-- row by row within -/
theorem p_is_load_within {d2 : D} {m : List Row} (h : LoadD d l) (h2 : LoadD d2 m) (hm : m.length < 100000) (le : ∀ r ∈ l, ∃ s ∈ m, s.1 = r.1 ∧ s.2.1 = r.2.1 ∧ r.2.2 ≤ s.2.2) (q : Q (.bl true)) : fs_is_load_within [d, d2] Q := by
  refine sq_for rowD l (fun r δ => ∃ (s2 s3 s4 : Sl), δ = [.dat d, .dat d2, s2, s3, s4, .no] ∧ ∀ x ∈ r, x ∈ l) (ei_load (i := 0) h rfl) ⟨_, _, _, rfl, fun _ z => z⟩ ?_ ?_
  · rintro ⟨a, b, n⟩ r δ ⟨s2, s3, s4, rfl, hr⟩
    have yes : m.any (fun s => (s.1 == a && s.2.1 == b) && decide (n ≤ s.2.2)) = true := by
      obtain ⟨s, hs, e1, e2, e3⟩ := le _ (hr _ List.mem_cons_self)
      refine List.any_eq_true.mpr ⟨s, hs, ?_⟩
      rw [e1, e2, decide_eq_true e3]
      simp
    refine ⟨[.dat d, .dat d2, .dat (.int a), .dat (.int b), .dat (.int n), .no], fun P k => k, st_if (b := !(m.any fun s => (s.1 == a && s.2.1 == b) && decide (n ≤ s.2.2))) (ev_not (ev_tst (ee_cb (ea_cons (ee_lc1 rowD (fun s => .bl ((s.1 == a && s.2.1 == b) && decide (n ≤ s.2.2))) m (ei_load (i := 1) h2 rfl) rfl hm fun s _ => ⟨_, fun P k => k, rfl, fun P k => k, fun _ => ?_⟩) ea_nil) (any_bls _ m)))) (fun z => ?_) fun _ => ⟨r, rfl, _, _, _, rfl, fun x hx => hr x (List.mem_cons_of_mem _ hx)⟩⟩
    · exact ee_and (ee_op (row_two rfl) (ee_tup (ea_cons (fun P k => k) (ea_cons (fun P k => k) ea_nil))) fun P k => ⟨⟨nc_two _ _, nc_two _ _⟩, by
        have e3 : PyData.eqv (D.tup [.int s.1, .int s.2.1]).py (D.tup [.int a, .int b]).py = (s.1 == a && s.2.1 == b) := eqv_pair _ _ _ _
        rw [e3]
        exact k⟩) fun _ => ee_op (x := .int n) (y := .int s.2.2) (fun P k => k) (row_at2 rfl) fun P k => k
    · rw [yes] at z
      cases z
  · rintro δ ⟨s2, s3, s4, rfl, _⟩
    exact q
end
end K26
set_option Elab.async false
set_option linter.all false
set_option maxRecDepth 100000
set_option maxHeartbeats 400000
namespace K26
open PySem PySem.Spec PyProof.Rows L2
/-! ## the country's and the web's defs -/
def cD (c0 : D) (T : List (List Int)) (aw : D) : D := .obj 0 [c0, .lst (T.map intsD), aw]
def wD (c : D) (bks : List (List Alt)) : D := .obj 1 [c, .lst (bks.map bookD)]
theorem ee_fld {k i n : Nat} {δ : DS} {ds : List D} {d : D} (h : δ[i]? = some (.dat (.obj k ds))) (hd : ds[n]? = some d) : EvE (dFldV k i n) δ d := fun P p => by
  refine ⟨?_, ?_⟩
  · unfold dFldK
    rw [h]
  · unfold dFld
    rw [h]
    exact ⟨d, hd, p⟩
def ysOf (T : List (List Int)) : List Nat := (T.zipIdx.filter fun p => decide (1 < p.1.length)).map (·.2)
section
variable {c0 aw : D} {T : List (List Int)} {bks : List (List Alt)} {Q : D → Prop} {v : Nat} {t : Int} {r : List Int}
theorem tie_at {δ : DS} {i j : Nat} (hi : δ[i]? = some (.dat (cD c0 T aw))) (hj : δ[j]? = some (.dat (natD v))) (h : T[v]? = some r) : EvE (dOp ixOp (dFldV 0 i 1) (dVar j)) δ (intsD r) :=
  ee_op (x := .lst (T.map intsD)) (y := natD v) (ee_fld hi rfl) (v_at hj) fun P k => ⟨intsD r, atI_nat (by rw [List.getElem?_map, h]; rfl), k⟩
theorem p_beside (h : T[v]? = some r) (q : Q (intsD r)) : fs_beside [cD c0 T aw, natD v] Q :=
  st_ret (δ := [.dat (cD c0 T aw), .dat (natD v)]) (ee_cb (xs := [intsD r]) (z := intsD r) (ea_cons (tie_at rfl rfl h) ea_nil) fun P k => k) q
def enT (p : List Int × Nat) : D := .tup [natD p.2, intsD p.1]
theorem en_T : enD (T.map intsD) = T.zipIdx.map enT := by
  unfold enD
  rw [List.zipIdx_map, List.map_map]
  rfl
theorem p_yards_in (hl : T.length < 1000) (q : Q (.lst ((ysOf T).map natD))) : fs_yards_in [cD c0 T aw] Q := by
  have e1 : EvE (dLc (dEnum (dCons (dFldV 0 0 1) dNil)) (gTp (gCn (gNm 1) (gCn (gNm 2) gNl))) (dTst (dOp cGt (dCB lenD (dCons (dVar 2) dNil)) (dC (.int 1)))) (dVar 1) [1, 2]) [.dat (cD c0 T aw), .no, .no] (.lst ((T.zipIdx.filter fun p => decide (1 < p.1.length)).map fun p => natD p.2)) :=
    ee_lc enT (fun p => decide (1 < p.1.length)) (fun p => natD p.2) T.zipIdx (fun P k => (ea_cons (ee_fld (ds := [c0, .lst (T.map intsD), aw]) rfl rfl) ea_nil) _ (by rw [← en_T] at k; exact k)) rfl (by rw [List.length_zipIdx]; omega) fun p _ =>
      ⟨[.dat (cD c0 T aw), .dat (natD p.2), .dat (intsD p.1)], fun P k => k, rfl, ev_tst (ee_op (x := .int (p.1.length : Nat)) (y := .int 1) (ee_cb (xs := [intsD p.1]) (ea_cons (v_at rfl) ea_nil) fun P k => by
        show P (.int ((p.1.map D.int).length : Nat))
        rw [List.length_map]
        exact k) (fun P k => k) fun P k => by
        have e : decide ((1 : Int) < (p.1.length : Nat)) = decide (1 < p.1.length) := by
          rw [decide_eq_decide]
          omega
        show P (.bl (decide ((1 : Int) < (p.1.length : Nat))))
        rw [e]
        exact k), fun _ => v_at rfl⟩
  refine st_ret (δ := [.dat (cD c0 T aw), .no, .no]) e1 ?_
  have e2 : (ysOf T).map natD = (T.zipIdx.filter fun p => decide (1 < p.1.length)).map fun p => natD p.2 := by
    unfold ysOf
    rw [List.map_map]
    rfl
  rw [e2] at q
  exact q
theorem p_is_place (h0 : 0 ≤ t) (h1 : t < (T.length : Nat)) (q : Q (.bl true)) : fs_is_place [cD c0 T aw, .int t] Q := by
  have e1 : EvE (dAndV (dCall fs_is_count [] (dCons (dVar 1) dNil)) (dOp cLt (dVar 1) (dCB lenD (dCons (dFldV 0 0 1) dNil)))) [.dat (cD c0 T aw), .dat (.int t)] (.bl (true && decide (t < (T.length : Nat)))) :=
    ee_and (ee_call (ds := [.int t]) (ea_cons (v_at rfl) ea_nil) fun P k => p_is_count1 h0 k) fun _ => ee_op (x := .int t) (y := .int (T.length : Nat)) (v_at rfl) (ee_cb (xs := [.lst (T.map intsD)]) (ea_cons (ee_fld (ds := [c0, .lst (T.map intsD), aw]) rfl rfl) ea_nil) fun P k => by
      show P (.int ((T.map intsD).length : Nat))
      rw [List.length_map]
      exact k) fun P k => k
  rw [decide_eq_true h1] at e1
  exact st_ret (δ := [.dat (cD c0 T aw), .dat (.int t)]) e1 q
theorem p_is_yard (h : T[v]? = some r) (hr : 1 < r.length) (q : Q (.bl true)) : fs_is_yard [cD c0 T aw, natD v] Q := by
  have hv : v < T.length := (List.getElem?_eq_some_iff.mp h).1
  have e1 : EvE (dAndV (dCall fs_is_place [] (dCons (dVar 0) (dCons (dVar 1) dNil))) (dOp cGt (dCB lenD (dCons (dOp ixOp (dFldV 0 0 1) (dVar 1)) dNil)) (dC (.int 1)))) [.dat (cD c0 T aw), .dat (natD v)] (.bl (true && decide ((1 : Int) < (r.length : Nat)))) :=
    ee_and (ee_call (ds := [cD c0 T aw, natD v]) (ea_cons (v_at rfl) (ea_cons (v_at rfl) ea_nil)) fun P k => p_is_place (by omega) (by omega) k) fun _ => ee_op (x := .int (r.length : Nat)) (y := .int 1) (ee_cb (xs := [intsD r]) (ea_cons (tie_at rfl rfl h) ea_nil) fun P k => by
      show P (.int ((r.map D.int).length : Nat))
      rw [List.length_map]
      exact k) (fun P k => k) fun P k => k
  rw [decide_eq_true (show (1 : Int) < (r.length : Nat) by omega)] at e1
  exact st_ret (δ := [.dat (cD c0 T aw), .dat (natD v)]) e1 q
theorem p_want_country (q : Q (cD c0 T aw)) : fs_want_country [cD c0 T aw] Q :=
  sq_if (δ := [.dat (cD c0 T aw)]) (b := false) (ev_not (b := true) (ev_tst fun P k => ⟨rfl, k⟩)) (fun z => nomatch z) fun _ => sq_next (st_ret (v_at rfl) q)
theorem p_want_yard (h : T[v]? = some r) (hr : 1 < r.length) (q : Q .non) : fs_want_yard [cD c0 T aw, natD v] Q :=
  st_if (δ := [.dat (cD c0 T aw), .dat (natD v)]) (b := false) (ev_not (b := true) (ev_tst (ee_call (ds := [cD c0 T aw, natD v]) (ea_cons (v_at rfl) (ea_cons (v_at rfl) ea_nil)) fun P k => p_is_yard h hr k))) (fun z => nomatch z) fun _ => q
theorem st_extend {E : DEnds} {δ δ1 : DS} {i : Nat} {a : DTE} {ds es : List D} (h0 : δ[i]? = some (.own ds)) (ha : ∀ P : D → DS → Prop, P (.lst es) δ1 → a δ P) (h1 : δ1[i]? = some (.own ds)) (hl : ds.length + es.length < 100000) (q : E.nx (δ1.set i (.own (ds ++ es)))) : dExtend i a E δ :=
  sq_extend (u := dNext) (E := E) h0 ha h1 hl q
theorem p_pairs_at (h : T[v]? = some r) (hn : r.length ≤ 10) (q : Q (psD (pairsOf r))) : fs_pairs_at [cD c0 T aw, natD v] Q := by
  have e1 : EvE (dCall fs_beside [] (dCons (dVar 0) (dCons (dVar 1) dNil))) [.dat (cD c0 T aw), .dat (natD v), .no, .no, .no, .no] (intsD r) := ee_call (ds := [cD c0 T aw, natD v]) (ea_cons (v_at rfl) (ea_cons (v_at rfl) ea_nil)) fun P k => p_beside h k
  refine e1 _ ?_
  refine sq_for (δ := [.dat (cD c0 T aw), .dat (natD v), .dat (intsD r), .own [], .no, .no]) D.int r (fun xs δ => ∃ (dn : List Int) (s4 : Sl), s4.isOwn = false ∧ r = dn ++ xs ∧ δ = [.dat (cD c0 T aw), .dat (natD v), .dat (intsD r), .own ((dn.flatMap fun o => (r.filter fun t => !(t == o)).map fun t => (o, t)).map pairD), s4, .no]) (ei_lst (a := dVar 2) (v_at rfl)) ⟨[], .no, rfl, rfl, rfl⟩ ?_ ?_
  · rintro o xs δ ⟨dn, s4, o4, e, rfl⟩
    have pl := pairs_len r dn
    have dl : dn.length ≤ r.length := by rw [e, List.length_append]; omega
    have pm : dn.length * r.length ≤ 100 := Nat.le_trans (Nat.mul_le_mul dl (Nat.le_refl _)) (Nat.le_trans (Nat.mul_le_mul hn hn) (by decide))
    have fl := List.length_filter_le (fun t => !(t == o)) r
    refine ⟨[.dat (cD c0 T aw), .dat (natD v), .dat (intsD r), .own ((dn.flatMap fun o => (r.filter fun t => !(t == o)).map fun t => (o, t)).map pairD), .dat (.int o), .no], fun P k => k, ?_⟩
    have e2 : EvE (dLc (dItL (dVar 2)) (gNm 5) (dTst (dOp neOp (dVar 5) (dVar 4))) (dTup (dCons (dVar 4) (dCons (dVar 5) dNil))) [5]) [.dat (cD c0 T aw), .dat (natD v), .dat (intsD r), .own ((dn.flatMap fun o => (r.filter fun t => !(t == o)).map fun t => (o, t)).map pairD), .dat (.int o), .no] (.lst ((r.filter fun t => !(t == o)).map fun t => pairD (o, t))) :=
      ee_lc D.int (fun t => !(t == o)) (fun t => pairD (o, t)) r (ei_lst (v_at rfl)) rfl (by omega) fun t _ => ⟨[.dat (cD c0 T aw), .dat (natD v), .dat (intsD r), .own ((dn.flatMap fun o => (r.filter fun t => !(t == o)).map fun t => (o, t)).map pairD), .dat (.int o), .dat (.int t)], fun P k => k, rfl, ev_tst (ee_op (v_at rfl) (v_at rfl) (ne_int t o)), fun _ => ee_tup (ea_cons (v_at rfl) (ea_cons (v_at rfl) ea_nil))⟩
    refine st_extend (i := 3) (es := (r.filter fun t => !(t == o)).map fun t => pairD (o, t)) rfl e2 rfl (by rw [List.length_map, List.length_map]; omega) ?_
    refine ⟨xs, rfl, dn ++ [o], .dat (.int o), rfl, by rw [List.append_assoc]; exact e, ?_⟩
    have e3 : ((dn ++ [o]).flatMap fun o => (r.filter fun t => !(t == o)).map fun t => (o, t)).map pairD = (dn.flatMap fun o => (r.filter fun t => !(t == o)).map fun t => (o, t)).map pairD ++ (r.filter fun t => !(t == o)).map fun t => pairD (o, t) := by
      rw [List.flatMap_append, List.flatMap_cons, List.flatMap_nil, List.append_nil, List.map_append, List.map_map]
      rfl
    rw [e3]
    rfl
  · rintro δ ⟨dn, s4, o4, e, rfl⟩
    rw [List.append_nil] at e
    subst e
    exact q
/-! ### loads that are right -/
structure RowOk (r : Row) : Prop where
  a : 0 ≤ r.1
  b : 0 ≤ r.2.1
  c : 0 < r.2.2
theorem in_pairs {ps : List (Int × Int)} {p : Int × Int} (h : p ∈ ps) : (D.pys (ps.map pairD)).any (fun z => PyData.eqv z (pairD p).py) = true := by
  rw [pys_map, List.map_map, List.any_map]
  refine List.any_eq_true.mpr ⟨p, h, ?_⟩
  show PyData.eqv (.tuple [.int p.1, .int p.2]) (.tuple [.int p.1, .int p.2]) = true
  rw [eqv_pair]
  simp
theorem in_ints {r : List Int} : (D.pys (r.map D.int)).any (fun z => PyData.eqv z (.int t)) = r.any (· == t) := by
  rw [pys_map, List.map_map, List.any_map]
  refine congrArg (fun f => r.any f) (funext fun x => ?_)
  show PyData.eqv (.int x) (.int t) = _
  simp [PyData.eqv]
theorem p_is_some_of {ps : List (Int × Int)} {r : Row} (hr : RowOk r) (hm : (r.1, r.2.1) ∈ ps) (q : Q (.bl true)) : fs_is_some_of [rowD r, psD ps] Q := by
  have e1 : EvE (dLc (dItT (dVar 0)) (gNm 2) dYes (dCall fs_is_count [] (dCons (dVar 2) dNil)) [2]) [.dat (rowD r), .dat (psD ps), .no] (.lst [.bl true, .bl true, .bl true]) :=
    fun P k => ⟨rfl, (show 3 < 100000 by decide), p_is_count1 hr.a ⟨rfl, p_is_count1 hr.b ⟨rfl, p_is_count1 (Int.le_of_lt hr.c) ⟨rfl, k⟩⟩⟩⟩
  refine sq_if (δ := [.dat (rowD r), .dat (psD ps), .no]) (b := false) (ev_or (b := false) (c := false) (ev_not (b := true) (ev_tst fun P k => k)) fun _ => ev_or (b := false) (c := false) (ev_tst (ee_op (x := .int 3) (y := .int 3) (fun P k => k) (fun P k => k) fun P k => ne_int 3 3 P k)) fun _ => ev_not (b := true) (ev_tst (ee_cb (xs := [.lst [.bl true, .bl true, .bl true]]) (ea_cons e1 ea_nil) fun P k => ⟨[true, true, true], rfl, k⟩))) (fun z => nomatch z) fun _ => sq_next ?_
  have e2 : EvE (dAndV (dOp cGt (dOp ixOp (dVar 0) (dC (.int 2))) (dC (.int 0))) (dOp inOp (dTup (dCons (dOp ixOp (dVar 0) (dC (.int 0))) (dCons (dOp ixOp (dVar 0) (dC (.int 1))) dNil))) (dVar 1))) [.dat (rowD r), .dat (psD ps), .no] (.bl (decide (0 < r.2.2) && true)) :=
    ee_and (ee_op (row_at2 rfl) (fun P k => k) fun P k => k) fun _ => ee_op (x := pairD (r.1, r.2.1)) (y := psD ps) (ee_tup (ea_cons (row_at0 rfl) (ea_cons (row_at1 rfl) ea_nil))) (v_at rfl) fun P k => ⟨⟨(nc_pair _).ok, (Nc.lst (mem_map_all nc_pair)).ok⟩, by rw [in_pairs hm]; exact k⟩
  rw [decide_eq_true hr.c] at e2
  exact st_ret e2 q
theorem cut_one (ds : List D) : cutD ds (some 1) none = ds.drop 1 := by
  unfold cutD
  rw [HT.sIx_none, show (some (1 : Int)) = some ((1 : Nat) : Int) from rfl, HT.sIx_nat]
  cases ds with
  | nil => rfl
  | cons d ds =>
    rw [List.length_cons, Nat.min_eq_left (by omega : 1 ≤ ds.length + 1)]
    show List.take (ds.length + 1 - 1) ds = ds
    rw [Nat.add_sub_cancel, List.take_length]
def twoD (p : Row × Row) : D := .tup [rowD p.1, rowD p.2]
theorem zip_two (l : List Row) : zipD (l.map rowD) ((l.drop 1).map rowD) = (l.zip (l.drop 1)).map twoD := by
  unfold zipD
  rw [List.zip_map, List.map_map]
  rfl
theorem zip_lt : ∀ {l : List Row}, l.Pairwise keyLt → ∀ p ∈ l.zip (l.drop 1), keyLt p.1 p.2
  | [], _, p, h => by cases h
  | [x], _, p, h => by cases h
  | x :: y :: l, hp, p, h => by
    have e : (x :: y :: l).zip ((x :: y :: l).drop 1) = (x, y) :: (y :: l).zip ((y :: l).drop 1) := rfl
    rw [e] at h
    rcases List.mem_cons.mp h with h | h
    · subst h
      exact (List.pairwise_cons.mp hp).1 y List.mem_cons_self
    · exact zip_lt (List.pairwise_cons.mp hp).2 p h
theorem ge_false {x y : Row} (h : keyLt x y) (P : D → Prop) (k : P (.bl false)) : geOp (.tup [.int x.1, .int x.2.1]) (.tup [.int y.1, .int y.2.1]) P := by
  refine ⟨⟨nc_two _ _, nc_two _ _, rfl, fun z => nomatch (show PyData.tuple _ = PyData.none from z)⟩, ?_⟩
  have e : PySem.W.dataLt (D.tup [.int x.1, .int x.2.1]).py (D.tup [.int y.1, .int y.2.1]).py = true := by
    show PySem.W.dataLt (.tuple [.int x.1, .int x.2.1]) (.tuple [.int y.1, .int y.2.1]) = true
    rw [PySem.W.dataLt_ii, decide_eq_true_eq]
    exact h
  rw [e]
  exact k
theorem bl_rep {α : Type} (b : Bool) (l : List α) : l.map (fun _ => D.bl b) = (l.map fun _ => b).map D.bl := by rw [List.map_map]; rfl
theorem p_load_in {l : List Row} (h : T[v]? = some r) (hn : r.length ≤ 10) (g : Good (pairsOf r) l) (h0 : ∀ x ∈ r, 0 ≤ x) (hl : l.length < 1000) (q : Q (loadL l)) : fs_load_in [cD c0 T aw, natD v, loadL l] Q := by
  have e0 : EvE (dCall fs_pairs_at [] (dCons (dVar 0) (dCons (dVar 1) dNil))) [.dat (cD c0 T aw), .dat (natD v), .dat (loadL l), .no, .no, .no, .no] (psD (pairsOf r)) := ee_call (ds := [cD c0 T aw, natD v]) (ea_cons (v_at rfl) (ea_cons (v_at rfl) ea_nil)) fun P k => p_pairs_at h hn k
  have e1 : EvE (dLc (dItL (dVar 2)) (gNm 4) dYes (dCall fs_is_some_of [] (dCons (dVar 4) (dCons (dVar 3) dNil))) [4]) [.dat (cD c0 T aw), .dat (natD v), .dat (loadL l), .dat (psD (pairsOf r)), .no, .no, .no] (.lst (l.map fun _ => .bl true)) :=
    ee_lc1 rowD (fun _ => .bl true) l (ei_lst (v_at rfl)) rfl (by omega) fun x hx => ⟨[.dat (cD c0 T aw), .dat (natD v), .dat (loadL l), .dat (psD (pairsOf r)), .dat (rowD x), .no, .no], fun P k => k, rfl, fun P k => k, fun _ => ee_call (ds := [rowD x, psD (pairsOf r)]) (ea_cons (v_at rfl) (ea_cons (v_at rfl) ea_nil)) fun P k => by
      have hm := g.mem x hx
      obtain ⟨o, ho, hp⟩ := List.mem_flatMap.mp hm
      obtain ⟨t, ht, e⟩ := List.mem_map.mp hp
      have k1 : x.1 = o := (congrArg (fun p : Int × Int => p.1) e).symm
      have k2 : x.2.1 = t := (congrArg (fun p : Int × Int => p.2) e).symm
      exact p_is_some_of ⟨by rw [k1]; exact h0 o ho, by rw [k2]; exact h0 t (List.mem_filter.mp ht).1, g.pos x hx⟩ hm k⟩
  have e2 : EvE (dLc (dZip (dCons (dVar 2) (dCons (dSlL (dVar 2) (dPart (dC (.int 1))) dNoP) dNil))) (gTp (gCn (gNm 5) (gCn (gNm 6) gNl))) dYes (dOp geOp (dSlT (dVar 5) dNoP (dPart (dC (.int 2)))) (dSlT (dVar 6) dNoP (dPart (dC (.int 2))))) [5, 6]) [.dat (cD c0 T aw), .dat (natD v), .dat (loadL l), .dat (psD (pairsOf r)), .no, .no, .no] (.lst ((l.zip (l.drop 1)).map fun _ => .bl false)) :=
    ee_lc1 twoD (fun _ => .bl false) (l.zip (l.drop 1)) (fun P k => by
      have e3 : EvE (dSlL (dVar 2) (dPart (dC (.int 1))) dNoP) [.dat (cD c0 T aw), .dat (natD v), .dat (loadL l), .dat (psD (pairsOf r)), .no, .no, .no] (.lst ((l.drop 1).map rowD)) := fun P k => by
        rw [List.map_drop, ← cut_one] at k
        exact k
      refine (ea_cons (v_at rfl) (ea_cons e3 ea_nil)) _ ?_
      show P (zipD (l.map rowD) ((l.drop 1).map rowD)) _
      rw [zip_two]
      exact k) rfl (by rw [List.length_zip]; omega) fun p hp => ⟨[.dat (cD c0 T aw), .dat (natD v), .dat (loadL l), .dat (psD (pairsOf r)), .no, .dat (rowD p.1), .dat (rowD p.2)], fun P k => k, rfl, fun P k => k, fun _ => ee_op (row_two rfl) (row_two rfl) fun P k => ge_false (zip_lt g.lt p hp) P k⟩
  refine sq_set (δ := [.dat (cD c0 T aw), .dat (natD v), .dat (loadL l), .no, .no, .no, .no]) (i := 3) e0 ⟨_, rfl⟩ ?_
  refine sq_if (δ := [.dat (cD c0 T aw), .dat (natD v), .dat (loadL l), .dat (psD (pairsOf r)), .no, .no, .no]) (b := false) (ev_or (b := false) (c := false) (ev_not (b := true) (ev_tst (ee_call (ds := [loadL l]) (ea_cons (v_at rfl) ea_nil) fun P k => p_is_list k))) fun _ => ev_not (b := true) (ev_tst (ee_cb (xs := [.lst (l.map fun _ => .bl true)]) (ea_cons e1 ea_nil) fun P k => ⟨l.map fun _ => true, bl_rep true l, by
    have e : (l.map fun _ => true).all id = true := by rw [List.all_map]; exact List.all_eq_true.mpr fun _ _ => rfl
    rw [e]
    exact k⟩))) (fun z => nomatch z) fun _ => sq_next ?_
  refine sq_if (b := false) (ev_tst (ee_cb (xs := [.lst ((l.zip (l.drop 1)).map fun _ => .bl false)]) (ea_cons e2 ea_nil) fun P k => ⟨(l.zip (l.drop 1)).map fun _ => false, bl_rep false _, by
    have e : ((l.zip (l.drop 1)).map fun _ => false).any id = false := by rw [List.any_map]; exact List.any_eq_false.mpr fun _ _ z => nomatch z
    rw [e]
    exact k⟩)) (fun z => nomatch z) fun _ => sq_next ?_
  exact st_ret (d := loadL l) (ee_cb (xs := [loadL l]) (ea_cons (v_at rfl) ea_nil) fun P k => k) q
theorem p_want_load {l : List Row} (h : T[v]? = some r) (hn : r.length ≤ 10) (g : Good (pairsOf r) l) (h0 : ∀ x ∈ r, 0 ≤ x) (hl : l.length < 1000) (q : Q (loadL l)) : fs_want_load [cD c0 T aw, natD v, loadL l] Q := by
  have e0 : EvE (dCall fs_load_in [] (dCons (dVar 0) (dCons (dVar 1) (dCons (dVar 2) dNil)))) [.dat (cD c0 T aw), .dat (natD v), .dat (loadL l), .no] (loadL l) := ee_call (ds := [cD c0 T aw, natD v, loadL l]) (ea_cons (v_at rfl) (ea_cons (v_at rfl) (ea_cons (v_at rfl) ea_nil))) fun P k => p_load_in h hn g h0 hl k
  refine sq_set (δ := [.dat (cD c0 T aw), .dat (natD v), .dat (loadL l), .no]) (i := 3) e0 ⟨_, rfl⟩ ?_
  refine sq_if (δ := [.dat (cD c0 T aw), .dat (natD v), .dat (loadL l), .dat (loadL l)]) (b := false) (ev_tst fun P k => k) (fun z => nomatch z) fun _ => sq_next (st_ret (v_at rfl) q)
/-! ### the web -/
abbrev wC (c0 : D) (T : List (List Int)) (aw : D) (bks : List (List Alt)) : D := wD (cD c0 T aw) bks
theorem p_country_of {c : D} (q : Q c) : fs_country_of [wD c bks] Q := st_ret (δ := [.dat (wD c bks)]) (ee_fld (ds := [c, .lst (bks.map bookD)]) rfl rfl) q
theorem p_want_web {c : D} (q : Q (wD c bks)) : fs_want_web [wD c bks] Q :=
  sq_if (δ := [.dat (wD c bks)]) (b := false) (ev_not (b := true) (ev_tst fun P k => ⟨rfl, k⟩)) (fun z => nomatch z) fun _ => sq_next (st_ret (v_at rfl) q)
theorem ee_cof {c : D} {δ : DS} {i : Nat} (h : δ[i]? = some (.dat (wD c bks))) : EvE (dCall fs_country_of [] (dCons (dVar i) dNil)) δ c := ee_call (ds := [wD c bks]) (ea_cons (v_at h) ea_nil) fun P k => p_country_of k
theorem ys_nd : (ysOf T).Nodup := by
  unfold ysOf
  have h : (T.zipIdx.map (·.2)).Nodup := by
    rw [List.zipIdx_map_snd]
    exact List.nodup_range'
  exact h.sublist ((List.filter_sublist).map _)
theorem p_book_at {j : Nat} {bk : List Alt} (hl : T.length < 1000) (hj : (ysOf T)[j]? = some v) (hb : bks[j]? = some bk) (q : Q (bookD bk)) : fs_book_at [wC c0 T aw bks, natD v] Q := by
  have hjl := (List.getElem?_eq_some_iff.mp hj).1
  have e1 : EvE (dIndex (dCall fs_yards_in [] (dCons (dFldV 1 0 0) dNil)) (dVar 1)) [.dat (wC c0 T aw bks), .dat (natD v)] (natD j) := fun P k => by
    refine (ee_call (ds := [cD c0 T aw]) (es := []) (z := .lst ((ysOf T).map natD)) (ea_cons (ee_fld (ds := [cD c0 T aw, .lst (bks.map bookD)]) rfl rfl) ea_nil) fun P k => p_yards_in hl k) _ ?_
    refine ⟨⟨(Nc.lst (n := 0) (mem_map_all fun i => Nc.int _)).ok, (Nc.int (n := 0) _).ok⟩, j, natD v, by rw [List.getElem?_map, hj]; rfl, by show PyData.eqv (.int _) (.int _) = true; simp [PyData.eqv], fun m z' hm hz => ?_, k⟩
    rw [List.getElem?_map] at hz
    cases e : (ysOf T)[m]? with
    | none =>
      rw [e] at hz
      cases hz
    | some u =>
      rw [e] at hz
      cases hz
      have ne : u ≠ v := fun z => by
        subst z
        have hml := (List.getElem?_eq_some_iff.mp e).1
        have h1 := (List.getElem?_eq_some_iff.mp e).2
        have h2 := (List.getElem?_eq_some_iff.mp hj).2
        have := (List.getElem_inj ys_nd (h₀ := hml) (h₁ := hjl)).mp (h1.trans h2.symm)
        omega
      show PyData.eqv (.int (u : Nat)) (.int (v : Nat)) = false
      simp only [PyData.eqv, beq_eq_false_iff_ne]
      omega
  have e2 : EvE (dOp ixOp (dFldV 1 0 1) (dIndex (dCall fs_yards_in [] (dCons (dFldV 1 0 0) dNil)) (dVar 1))) [.dat (wC c0 T aw bks), .dat (natD v)] (bookD bk) :=
    ee_op (x := .lst (bks.map bookD)) (y := natD j) (ee_fld (ds := [cD c0 T aw, .lst (bks.map bookD)]) rfl rfl) e1 fun P k => ⟨bookD bk, atI_nat (by rw [List.getElem?_map, hb]; rfl), k⟩
  exact st_ret (δ := [.dat (wC c0 T aw bks), .dat (natD v)]) e2 q
theorem p_want_yard_of (h : T[v]? = some r) (hr : 1 < r.length) (q : Q (cD c0 T aw)) : fs_want_yard_of [cD c0 T aw, natD v] Q := by
  refine sq_set (δ := [.dat (cD c0 T aw), .dat (natD v), .no]) (i := 2) (d := cD c0 T aw) (ee_call (ds := [cD c0 T aw]) (ea_cons (v_at rfl) ea_nil) fun P k => p_want_country k) ⟨_, rfl⟩ ?_
  exact (ee_call (ds := [cD c0 T aw, natD v]) (es := []) (z := .non) (ea_cons (v_at (δ := [.dat (cD c0 T aw), .dat (natD v), .dat (cD c0 T aw)]) (i := 2) rfl) (ea_cons (v_at (i := 1) rfl) ea_nil)) fun P k => p_want_yard h hr k) _ q
theorem p_want_web_yard (h : T[v]? = some r) (hr : 1 < r.length) (q : Q (wC c0 T aw bks)) : fs_want_web_yard [wC c0 T aw bks, natD v] Q := by
  refine sq_set (δ := [.dat (wC c0 T aw bks), .dat (natD v), .no]) (i := 2) (d := wC c0 T aw bks) (ee_call (ds := [wC c0 T aw bks]) (ea_cons (v_at rfl) ea_nil) fun P k => p_want_web k) ⟨_, rfl⟩ ?_
  exact (ee_call (ds := [cD c0 T aw, natD v]) (es := []) (z := .non) (ea_cons (ee_cof (δ := [.dat (wC c0 T aw bks), .dat (natD v), .dat (wC c0 T aw bks)]) (i := 2) rfl) (ea_cons (v_at (i := 1) rfl) ea_nil)) fun P k => p_want_yard h hr k) _ q
theorem p_want_neighbour (h : T[v]? = some r) (ht : t ∈ r) (h0 : 0 ≤ t) (h1 : t < (T.length : Nat)) (q : Q .non) : fs_want_neighbour [cD c0 T aw, natD v, .int t] Q := by
  refine st_if (δ := [.dat (cD c0 T aw), .dat (natD v), .dat (.int t)]) (b := false) (ev_or (b := false) (c := false) (ev_not (b := true) (ev_tst (ee_call (ds := [cD c0 T aw, .int t]) (ea_cons (v_at rfl) (ea_cons (v_at rfl) ea_nil)) fun P k => p_is_place h0 h1 k))) fun _ => ev_tst (ee_op (x := .int t) (y := intsD r) (v_at rfl) (ee_call (ds := [cD c0 T aw, natD v]) (ea_cons (v_at rfl) (ea_cons (v_at rfl) ea_nil)) fun P k => p_beside h k) fun P k => ⟨⟨(Nc.int (n := 0) _).ok, (nc_intsD r).ok⟩, ?_⟩)) (fun z => nomatch z) fun _ => q
  have e : (D.pys (r.map D.int)).any (fun z => PyData.eqv z (D.int t).py) = true := by
    have e2 := in_ints (t := t) (r := r)
    rw [List.any_eq_true.mpr ⟨t, ht, by simp⟩] at e2
    exact e2
  rw [e]
  exact k
/-- what is known of a yard of the web -/
structure YardOk (T : List (List Int)) (bks : List (List Alt)) (v j : Nat) (r : List Int) (bk : List Alt) : Prop where
  tl : T.length < 1000
  row : T[v]? = some r
  two : 1 < r.length
  few : r.length ≤ 4
  nd : r.Nodup
  ix : (ysOf T)[j]? = some v
  ib : bks[j]? = some bk
  pl : ∀ x ∈ r, 0 ≤ x ∧ x < (T.length : Nat)
  bs : BookS bk
  cap : ∀ l, stands bk l = true → total l ≤ 4
variable {j : Nat} {bk : List Alt}
theorem YardOk.caps (y : YardOk T bks v j r bk) (ht : t ∈ r) : Cap bk (tgt r t) := ⟨y.cap, tgt_nd y.nd, by
  have := tgt_len y.nd ht
  have := y.few
  omega⟩
theorem ee_book (y : YardOk T bks v j r bk) {δ : DS} {i k : Nat} (hi : δ[i]? = some (.dat (wC c0 T aw bks))) (hk : δ[k]? = some (.dat (natD v))) : EvE (dCall fs_book_at [] (dCons (dVar i) (dCons (dVar k) dNil))) δ (bookD bk) :=
  ee_call (ds := [wC c0 T aw bks, natD v]) (ea_cons (v_at hi) (ea_cons (v_at hk) ea_nil)) fun P k => p_book_at y.tl y.ix y.ib k
theorem p_pairs_towards (y : YardOk T bks v j r bk) (ht : t ∈ r) (q : Q (psD (tgt r t))) : fs_pairs_towards [cD c0 T aw, natD v, .int t] Q := by
  have hn : r.length ≤ 10 := Nat.le_trans y.few (by decide)
  have e1 := pairs_of_target (near := r) (P := fun _ => True) hn t (δ := [.dat (cD c0 T aw), .dat (natD v), .dat (.int t), .no]) (i := 2) (j := 3) (w := dItL (dCall fs_pairs_at [] (dCons (dVar 0) (dCons (dVar 1) dNil)))) (ei_lst (ee_call (ds := [cD c0 T aw, natD v]) (ea_cons (v_at rfl) (ea_cons (v_at rfl) ea_nil)) fun P k => p_pairs_at y.row hn k)) rfl fun δ2 d e => by
    subst e
    exact ⟨fun P k => k, rfl, rfl, rfl⟩
  rw [tgt_eq y.nd ht] at e1
  exact st_ret (δ := [.dat (cD c0 T aw), .dat (natD v), .dat (.int t), .no]) e1 q
theorem p_towards (y : YardOk T bks v j r bk) (ht : t ∈ r) (q : Q (.new ((LL bk (tgt r t)).map loadN))) : fs_towards [wC c0 T aw bks, natD v, .int t] Q := by
  have c := y.caps ht
  refine sq_set (δ := [.dat (wC c0 T aw bks), .dat (natD v), .dat (.int t), .no]) (i := 3) (d := psD (tgt r t)) (ee_call (ds := [cD c0 T aw, natD v, .int t]) (ea_cons (ee_cof rfl) (ea_cons (v_at rfl) (ea_cons (v_at rfl) ea_nil))) fun P k => p_pairs_towards y ht k) ⟨_, rfl⟩ ?_
  have sb : ∀ P : D → DS → Prop, (∀ tl : List (List Row), tl.Perm (std bk (tgt r t)) → P (.lst (.lst [] :: tl.map loadN)) [.dat (wC c0 T aw bks), .dat (natD v), .dat (.int t), .dat (psD (tgt r t))]) → dCall fs_standing_by [.non] (dCons (dCall fs_book_at [] (dCons (dVar 0) (dCons (dVar 1) dNil))) (dCons (dVar 3) dNil)) [.dat (wC c0 T aw bks), .dat (natD v), .dat (.int t), .dat (psD (tgt r t))] P := fun P k =>
    (ea_cons (ee_book y rfl rfl) (ea_cons (v_at rfl) ea_nil)) _ (p_standing_by c y.bs fun tl pm => k tl pm)
  have last : ∀ tl : List (List Row), tl.Perm (std bk (tgt r t)) → sortedDN [.lst (cutD (D.lst [] :: tl.map loadN) (some 1) none)] Q := fun tl pm => by
    have e : cutD (D.lst [] :: tl.map loadN) (some 1) none = tl.map loadN := cut_one _
    have e2 : sortL tl = LL bk (tgt r t) := sortL_uniq pm
    rw [e]
    refine ⟨sok_N tl (by rw [pm.length_eq]; have := std_len c; omega), ?_⟩
    rw [sortD_N, e2]
    exact q
  show dRet (dCB sortedDN (dCons (dSlL (dCall fs_standing_by [.non] (dCons (dCall fs_book_at [] (dCons (dVar 0) (dCons (dVar 1) dNil))) (dCons (dVar 3) dNil))) (dPart (dC (.int 1))) dNoP) dNil)) (pureE Q) [.dat (wC c0 T aw bks), .dat (natD v), .dat (.int t), .dat (psD (tgt r t))]
  unfold dRet dCB dCons dSlL
  exact sb _ last
theorem p_heaviest_towards (y : YardOk T bks v j r bk) (ht : t ∈ r) (q : Q (.new ((HH bk (tgt r t)).map loadN))) : fs_heaviest_towards [wC c0 T aw bks, natD v, .int t] Q := by
  have c := y.caps ht
  have ll : (LL bk (tgt r t)).length < 1024 := by rw [LL_perm.length_eq]; exact std_len c
  refine sq_set (δ := [.dat (wC c0 T aw bks), .dat (natD v), .dat (.int t), .no, .no]) (i := 3) (d := psD (tgt r t)) (ee_call (ds := [cD c0 T aw, natD v, .int t]) (ea_cons (ee_cof rfl) (ea_cons (v_at rfl) (ea_cons (v_at rfl) ea_nil))) fun P k => p_pairs_towards y ht k) ⟨_, rfl⟩ ?_
  have e1 : EvE (dLcN (dItL (dCall fs_towards [] (dCons (dVar 0) (dCons (dVar 1) (dCons (dVar 2) dNil))))) (gNm 4) (dTst (dCall fs_are_refused [] (dCons (dCall fs_book_at [] (dCons (dVar 0) (dCons (dVar 1) dNil))) (dCons (dVar 4) (dCons (dVar 3) dNil))))) (dVar 4) [4]) [.dat (wC c0 T aw bks), .dat (natD v), .dat (.int t), .dat (psD (tgt r t)), .no] (.new ((HH bk (tgt r t)).map loadN)) :=
    ee_lcN loadN (refused bk (tgt r t)) loadN (LL bk (tgt r t)) (ei_new (ee_call (ds := [wC c0 T aw bks, natD v, .int t]) (ea_cons (v_at rfl) (ea_cons (v_at rfl) (ea_cons (v_at rfl) ea_nil))) fun P k => p_towards y ht k)) rfl (by omega) fun x hx => ⟨[.dat (wC c0 T aw bks), .dat (natD v), .dat (.int t), .dat (psD (tgt r t)), .dat (loadN x)], fun P k => k, rfl, ev_tst (ee_call (ds := [bookD bk, loadN x, psD (tgt r t)]) (ea_cons (ee_book y rfl rfl) (ea_cons (v_at rfl) (ea_cons (v_at rfl) ea_nil))) fun P k => by
      have g := (std_mem (LL_mem.mp hx)).1
      have := g.len
      have := c.few
      exact p_are_refused c y.bs (.inr rfl) (by omega) g k), fun _ => v_at rfl⟩
  exact st_ret e1 q
theorem p_loads_towards (y : YardOk T bks v j r bk) (ht : t ∈ r) (q : Q (.new ((LL bk (tgt r t)).map loadN))) : fs_loads_towards [wC c0 T aw bks, natD v, .int t] Q := by
  refine sq_set (δ := [.dat (wC c0 T aw bks), .dat (natD v), .dat (.int t), .no]) (i := 3) (d := wC c0 T aw bks) (ee_call (ds := [wC c0 T aw bks, natD v]) (ea_cons (v_at rfl) (ea_cons (v_at rfl) ea_nil)) fun P k => p_want_web_yard y.row y.two k) ⟨_, rfl⟩ ?_
  refine (ee_call (ds := [cD c0 T aw, natD v, .int t]) (es := []) (z := .non) (ea_cons (ee_cof (δ := [.dat (wC c0 T aw bks), .dat (natD v), .dat (.int t), .dat (wC c0 T aw bks)]) (i := 3) rfl) (ea_cons (v_at (i := 1) rfl) (ea_cons (v_at (i := 2) rfl) ea_nil))) fun P k => p_want_neighbour y.row ht (y.pl t ht).1 (y.pl t ht).2 k) _ ?_
  exact st_ret (E := pureE Q) (δ := [.dat (wC c0 T aw bks), .dat (natD v), .dat (.int t), .dat (wC c0 T aw bks)]) (ee_call (ds := [wC c0 T aw bks, natD v, .int t]) (ea_cons (v_at (i := 3) rfl) (ea_cons (v_at (i := 1) rfl) (ea_cons (v_at (i := 2) rfl) ea_nil))) fun P k => p_towards y ht k) q
theorem p_heaviest (y : YardOk T bks v j r bk) (ht : t ∈ r) (q : Q (.new ((HH bk (tgt r t)).map loadN))) : fs_heaviest [wC c0 T aw bks, natD v, .int t] Q := by
  refine sq_set (δ := [.dat (wC c0 T aw bks), .dat (natD v), .dat (.int t), .no]) (i := 3) (d := wC c0 T aw bks) (ee_call (ds := [wC c0 T aw bks, natD v]) (ea_cons (v_at rfl) (ea_cons (v_at rfl) ea_nil)) fun P k => p_want_web_yard y.row y.two k) ⟨_, rfl⟩ ?_
  refine (ee_call (ds := [cD c0 T aw, natD v, .int t]) (es := []) (z := .non) (ea_cons (ee_cof (δ := [.dat (wC c0 T aw bks), .dat (natD v), .dat (.int t), .dat (wC c0 T aw bks)]) (i := 3) rfl) (ea_cons (v_at (i := 1) rfl) (ea_cons (v_at (i := 2) rfl) ea_nil))) fun P k => p_want_neighbour y.row ht (y.pl t ht).1 (y.pl t ht).2 k) _ ?_
  exact st_ret (E := pureE Q) (δ := [.dat (wC c0 T aw bks), .dat (natD v), .dat (.int t), .dat (wC c0 T aw bks)]) (ee_call (ds := [wC c0 T aw bks, natD v, .int t]) (ea_cons (v_at (i := 3) rfl) (ea_cons (v_at (i := 1) rfl) (ea_cons (v_at (i := 2) rfl) ea_nil))) fun P k => p_heaviest_towards y ht k) q
theorem tgt_sub (y : YardOk T bks v j r bk) (ht : t ∈ r) {l : List Row} (g : Good (tgt r t) l) : Good (pairsOf r) l := ⟨fun x hx => by
  have h := g.mem x hx
  rw [← tgt_eq y.nd ht] at h
  exact (List.mem_filter.mp h).1, g.pos, g.lt⟩
theorem p_lets (y : YardOk T bks v j r bk) {l : List Row} (g : Good (pairsOf r) l) (hl : l.length < 1000) (s : stands bk l = true) (q : Q (.bl true)) : fs_lets [wC c0 T aw bks, natD v, loadL l] Q := by
  have hn : r.length ≤ 10 := Nat.le_trans y.few (by decide)
  refine sq_set (δ := [.dat (wC c0 T aw bks), .dat (natD v), .dat (loadL l), .no]) (i := 3) (d := wC c0 T aw bks) (ee_call (ds := [wC c0 T aw bks, natD v]) (ea_cons (v_at rfl) (ea_cons (v_at rfl) ea_nil)) fun P k => p_want_web_yard y.row y.two k) ⟨_, rfl⟩ ?_
  have la : ∀ P : D → Prop, P (.bl true) → fs_let_at [wC c0 T aw bks, natD v, loadL l] P := fun P k =>
    st_ret (δ := [.dat (wC c0 T aw bks), .dat (natD v), .dat (loadL l)]) (ee_call (ds := [bookD bk, loadL l]) (ea_cons (ee_book y rfl rfl) (ea_cons (v_at rfl) ea_nil)) fun P k => p_stands_by (.inl rfl) (by omega) y.bs (by rw [s]; exact k)) k
  exact st_ret (δ := [.dat (wC c0 T aw bks), .dat (natD v), .dat (loadL l), .dat (wC c0 T aw bks)]) (ee_call (ds := [wC c0 T aw bks, natD v, loadL l]) (ea_cons (v_at rfl) (ea_cons (v_at rfl) (ea_cons (ee_call (ds := [cD c0 T aw, natD v, loadL l]) (ea_cons (ee_cof rfl) (ea_cons (v_at rfl) (ea_cons (v_at rfl) ea_nil))) fun P k => p_want_load y.row hn g (fun x hx => (y.pl x hx).1) hl k) ea_nil))) la) q
theorem p_is_at_most (y : YardOk T bks v j r bk) {l m : List Row} (g : Good (pairsOf r) l) (g2 : Good (pairsOf r) m) (hl : l.length < 1000) (hm : m.length < 1000) (le : ∀ x ∈ l, ∃ s ∈ m, s.1 = x.1 ∧ s.2.1 = x.2.1 ∧ x.2.2 ≤ s.2.2) (q : Q (.bl true)) : fs_is_at_most [cD c0 T aw, natD v, loadL l, loadL m] Q := by
  have hn : r.length ≤ 10 := Nat.le_trans y.few (by decide)
  have h0 : ∀ x ∈ r, 0 ≤ x := fun x hx => (y.pl x hx).1
  refine sq_set (δ := [.dat (cD c0 T aw), .dat (natD v), .dat (loadL l), .dat (loadL m), .no, .no]) (i := 4) (d := cD c0 T aw) (ee_call (ds := [cD c0 T aw, natD v]) (ea_cons (v_at rfl) (ea_cons (v_at rfl) ea_nil)) fun P k => p_want_yard_of y.row y.two k) ⟨_, rfl⟩ ?_
  refine sq_set (δ := [.dat (cD c0 T aw), .dat (natD v), .dat (loadL l), .dat (loadL m), .dat (cD c0 T aw), .no]) (i := 5) (d := loadL l) (ee_call (ds := [cD c0 T aw, natD v, loadL l]) (ea_cons (v_at rfl) (ea_cons (v_at rfl) (ea_cons (v_at rfl) ea_nil))) fun P k => p_want_load y.row hn g h0 hl k) ⟨_, rfl⟩ ?_
  exact st_ret (δ := [.dat (cD c0 T aw), .dat (natD v), .dat (loadL l), .dat (loadL m), .dat (cD c0 T aw), .dat (loadL l)]) (ee_call (ds := [loadL l, loadL m]) (ea_cons (v_at rfl) (ea_cons (ee_call (ds := [cD c0 T aw, natD v, loadL m]) (ea_cons (v_at rfl) (ea_cons (v_at rfl) (ea_cons (v_at rfl) ea_nil))) fun P k => p_want_load y.row hn g2 h0 hm k) ea_nil)) fun P k => p_is_load_within (.inl rfl) (.inl rfl) (by omega) le k) q
end
end K26
set_option Elab.async false
set_option linter.all false
set_option maxRecDepth 100000
set_option maxHeartbeats 400000
namespace K26
open PySem PySem.Spec PyProof.Rows L2
/-! ## one turn of the law's last loop -/
mutual
theorem eqv_self : ∀ d : PyData, d.hasDict = false → PyData.eqv d d = true
  | .none, _ => by simp [PyData.eqv]
  | .bool b, _ => by simp [PyData.eqv]
  | .int i, _ => by simp [PyData.eqv]
  | .str x, _ => by simp [PyData.eqv]
  | .list xs, h => by
    have h' : PyData.hasDictAll xs = false := h
    have e := eqvs_self xs h'
    simpa [PyData.eqv] using e
  | .tuple xs, h => by
    have h' : PyData.hasDictAll xs = false := h
    have e := eqvs_self xs h'
    simpa [PyData.eqv] using e
  | .dict _, h => by
    have h' : true = false := h
    cases h'
theorem eqvs_self : ∀ xs : List PyData, PyData.hasDictAll xs = false → PyData.eqvAll xs xs = true
  | [], _ => by simp [PyData.eqvAll]
  | x :: xs, h => by
    have h' : (x.hasDict || PyData.hasDictAll xs) = false := h
    rw [Bool.or_eq_false_iff] at h'
    rw [PySem.W.eqv_all_cons, eqv_self x h'.1, eqvs_self xs h'.2]
    rfl
end
theorem eqv_load {l m : List Row} (h : PyData.eqv (loadL l).py (loadL m).py = true) : l = m := tok_load ((PySem.W.toks_eqv (loadL l).py (loadL m).py (alike_rows l m)).1 h)
/-! ### data that are shown -/
structure Sm (k W : Nat) (d : PyData) : Prop where
  cl : d.canLay0 = true
  dp : d.depth ≤ k
  wt : d.weight ≤ W
  sh : d.intsShort 13 = true
  sw : d.showable = true
  nd : d.hasDict = false
theorem sm_all {k W : Nat} : ∀ {xs : List PyData}, (∀ x ∈ xs, Sm k W x) → PyData.canLayAll0 xs = true ∧ PyData.depthAll xs ≤ k ∧ PyData.weightAll xs ≤ xs.length * (W + 1) ∧ PyData.intsShortAll 13 xs = true ∧ PyData.showableAll xs = true ∧ PyData.hasDictAll xs = false
  | [], _ => ⟨rfl, Nat.zero_le _, Nat.zero_le _, rfl, rfl, rfl⟩
  | x :: xs, h => by
    obtain ⟨h1, h2, h3, h4, h5, h6⟩ := sm_all fun y hy => h y (List.mem_cons_of_mem x hy)
    have s := h x List.mem_cons_self
    refine ⟨?_, ?_, ?_, ?_, ?_, ?_⟩
    · show (x.canLay0 && PyData.canLayAll0 xs) = true
      rw [s.cl, h1]
      rfl
    · show max x.depth (PyData.depthAll xs) ≤ k
      exact Nat.max_le.mpr ⟨s.dp, h2⟩
    · show x.weight + 1 + PyData.weightAll xs ≤ (xs.length + 1) * (W + 1)
      have := s.wt
      rw [Nat.succ_mul]
      omega
    · show (x.intsShort 13 && PyData.intsShortAll 13 xs) = true
      rw [s.sh, h4]
      rfl
    · show (x.showable && PyData.showableAll xs) = true
      rw [s.sw, h5]
      rfl
    · show (x.hasDict || PyData.hasDictAll xs) = false
      rw [s.nd, h6]
      rfl
theorem Sm.list {k W n : Nat} {xs : List PyData} (h : ∀ x ∈ xs, Sm k W x) (hn : xs.length ≤ n) : Sm (k + 1) (n * (W + 1)) (.list xs) := by
  obtain ⟨h1, h2, h3, h4, h5, h6⟩ := sm_all h
  exact ⟨h1, Nat.succ_le_succ h2, Nat.le_trans h3 (Nat.mul_le_mul_right _ hn), h4, h5, h6⟩
theorem Sm.tuple {k W n : Nat} {xs : List PyData} (h : ∀ x ∈ xs, Sm k W x) (hn : xs.length ≤ n) : Sm (k + 1) (n * (W + 1)) (.tuple xs) := by
  obtain ⟨h1, h2, h3, h4, h5, h6⟩ := sm_all h
  exact ⟨h1, Nat.succ_le_succ h2, Nat.le_trans h3 (Nat.mul_le_mul_right _ hn), h4, h5, h6⟩
theorem sm_small : ∀ n : Nat, n < 32 → (PyData.int (n : Nat)).weight ≤ 5 ∧ (PyData.int (n : Nat)).intsShort 13 = true ∧ (PyData.int (n : Nat)).showable = true := by decide +kernel
theorem sm_int {i : Int} (h0 : 0 ≤ i) (h1 : i < 32) : Sm 0 5 (.int i) := by
  obtain ⟨n, rfl⟩ : ∃ n : Nat, i = n := ⟨i.toNat, by omega⟩
  obtain ⟨a, b, c⟩ := sm_small n (by omega)
  exact ⟨rfl, Nat.le_refl _, a, b, c, rfl⟩
theorem Sm.repr {k W : Nat} {d : PyData} (s : Sm k W d) (hk : k ≤ 60) (hW : W ≤ 1048576) : ReprOk d := by
  have e : (2 : Nat) ^ 20 = 1048576 := by decide
  have h1 := s.dp
  have h2 := s.wt
  have h : PyData.layable0 d = true := by
    unfold PyData.layable0
    rw [s.cl, decide_eq_true (show d.depth ≤ 64 by omega), decide_eq_true (show d.weight ≤ 2 ^ 20 by rw [e]; omega)]
    rfl
  have h3 := shown_le13 h s.sh
  exact ⟨s.sw, s.nd, Nat.le_trans h1 hk, by rw [sizeLine_eq]; omega⟩
/-- rows of small numbers -/
def RowSm (r : Row) : Prop := (0 ≤ r.1 ∧ r.1 < 32) ∧ (0 ≤ r.2.1 ∧ r.2.1 < 32) ∧ 0 ≤ r.2.2 ∧ r.2.2 < 32
theorem sm_row {r : Row} (h : RowSm r) : Sm 1 18 (rowD r).py := Sm.tuple (k := 0) (W := 5) (n := 3) (xs := [.int r.1, .int r.2.1, .int r.2.2]) (fun x hx => by
  simp only [List.mem_cons, List.not_mem_nil, or_false] at hx
  rcases hx with rfl | rfl | rfl
  · exact sm_int h.1.1 h.1.2
  · exact sm_int h.2.1.1 h.2.1.2
  · exact sm_int h.2.2.1 h.2.2.2) (Nat.le_refl _)
theorem sm_load {l : List Row} (h : ∀ r ∈ l, RowSm r) (hl : l.length ≤ 10) : Sm 2 190 (loadL l).py := by
  have e : (loadL l).py = .list (l.map fun r => (rowD r).py) := by
    show PyData.list (D.pys (l.map rowD)) = _
    rw [rows_py]
  rw [e]
  exact Sm.list (n := 10) (fun x hx => by
    obtain ⟨r, hr, rfl⟩ := List.mem_map.mp hx
    exact sm_row (h r hr)) (by rw [List.length_map]; exact hl)
theorem pys_LN (L : List (List Row)) : D.pys (L.map loadN) = D.pys (L.map loadL) := by
  rw [pys_map, pys_map, List.map_map, List.map_map]
  rfl
theorem sm_loads {L : List (List Row)} (h : ∀ l ∈ L, (∀ r ∈ l, RowSm r) ∧ l.length ≤ 10) (hl : L.length ≤ 1024) : Sm 3 (1024 * 191) (.list (D.pys (L.map loadL))) := by
  rw [pys_map, List.map_map]
  exact Sm.list (fun x hx => by
    obtain ⟨l, hl, rfl⟩ := List.mem_map.mp hx
    exact sm_load (h l hl).1 (h l hl).2) (by rw [List.length_map]; exact hl)
theorem flats_LN (L : List (List Row)) : D.flats (L.map loadN) = true := (nc_loadsN L).fl
theorem flats_LL (L : List (List Row)) : D.flats (L.map loadL) = true := (nc_loads L).fl
theorem repr_N {L : List (List Row)} (s : ReprOk (.list (D.pys (L.map loadL)))) (P : D → Prop) (k : P (.str (PyData.list (D.pys (L.map loadL))).shown)) : reprD [.new (L.map loadN)] P := by
  refine ⟨⟨flats_LN L, ?_⟩, ?_⟩
  · rw [pys_LN]
    exact s
  · rw [pys_LN]
    exact k
theorem repr_L {L : List (List Row)} (s : ReprOk (.list (D.pys (L.map loadL)))) (P : D → Prop) (k : P (.str (PyData.list (D.pys (L.map loadL))).shown)) : reprD [.lst (L.map loadL)] P := ⟨⟨flats_LL L, s⟩, k⟩
theorem neS_same (x : Str) (P : D → Prop) (k : P (.bl false)) : neS (.str x) (.str x) P := by
  show P (.bl (!decide (x = x)))
  rw [decide_eq_true rfl]
  exact k
theorem ne_new {L : List (List Row)} (s : ReprOk (.list (D.pys (L.map loadL)))) (P : D → Prop) (k : P (.bl false)) : neOp (.new (L.map loadN)) (.new (L.map loadN)) P := ⟨⟨(nc_loadsN L).ok, (nc_loadsN L).ok⟩, by
  have e : PyData.eqv (D.new (L.map loadN)).py (D.new (L.map loadN)).py = true := eqv_self _ (by
    show PyData.hasDict (.list (D.pys (L.map loadN))) = false
    rw [pys_LN]
    exact s.nd)
  rw [e]
  exact k⟩
theorem ne_mix {L : List (List Row)} (s : ReprOk (.list (D.pys (L.map loadL)))) (P : D → Prop) (k : P (.bl false)) : neOp (.new (L.map loadN)) (.lst (L.map loadL)) P := ⟨⟨(nc_loadsN L).ok, (nc_loads L).ok⟩, by
  have e : PyData.eqv (D.new (L.map loadN)).py (D.lst (L.map loadL)).py = true := by
    show PyData.eqv (.list (D.pys (L.map loadN))) (.list (D.pys (L.map loadL))) = true
    rw [pys_LN]
    exact eqv_self _ s.nd
  rw [e]
  exact k⟩
theorem not_met {met : List (List Row)} {x : List Row} (h : x ∉ met) (P : D → Prop) (k : P (.bl false)) : inOp (loadN x) (.lst (met.map loadL)) P := ⟨⟨(nc_loadN x).ok, (nc_loads met).ok⟩, by
  have e : (D.pys (met.map loadL)).any (fun z => PyData.eqv z (loadN x).py) = false := by
    rw [pys_map, List.map_map, List.any_map, List.any_eq_false]
    intro m hm z
    have z2 : PyData.eqv (loadL m).py (loadL x).py = true := z
    have := eqv_load z2
    subst this
    exact h hm
  rw [e]
  exact k⟩
theorem olds_of {α : Type} {f : α → D} (h : ∀ x, (f x).old = true) (l : List α) : D.olds (l.map f) = true := by
  rw [olds_all, List.all_eq_true]
  intro d hd
  obtain ⟨x, _, rfl⟩ := List.mem_map.mp hd
  exact h x
theorem old_load (l : List Row) : (loadL l).old = true := olds_of (fun _ => rfl) l
theorem old_ints (l : List Int) : (intsD l).old = true := olds_of (fun _ => rfl) l
theorem old_bd (b : Bd) : (bdD b).old = true := by
  obtain ⟨o, t, m⟩ := b
  cases o <;> cases t <;> rfl
theorem old_book (b : List Alt) : (bookD b).old = true := olds_of (fun a => by
  show (true && (D.olds (a.2.map bdD) && true)) = true
  rw [olds_of old_bd]
  rfl) b
section
variable {c0 aw : D} {T : List (List Int)} {bks : List (List Alt)} {v j : Nat} {r : List Int} {bk : List Alt} {t : Int} {E : DEnds} {a : DTE} {δ : DS} {u : DTS}
theorem sq_par {i k : Nat} {b : DTE} {d e : D} (h1 : EvE a δ d) (h2 : EvE b δ e) (hi : ∃ s, δ[i]? = some s) (hk : ∃ s, (δ.set i (.dat d))[k]? = some s) (q : u E ((δ.set i (.dat d)).set k (.dat e))) : dSeq (dPar i k (dDat a) (dDat b)) u E δ :=
  h1 _ (h2 _ (put_by hi (put_by hk q)))
theorem ee_callW {l : DTA} {ds : List D} {f : DSp} {z : D} (h1 : EvA l δ ds) (h : ∀ P : D → Prop, P z → f ds.reverse P) : EvE (dCallW f l) δ z := fun P q => h1 _ (h _ q)
/-- what the turn asks of the yard, more -/
structure YardMore (T : List (List Int)) (r : List Int) (bk : List Alt) : Prop where
  sm : ∀ x ∈ r, x < 32
  one : ∀ p ∈ pairsOf r, stands bk [(p.1, p.2, 1)] = true
theorem total_row {l : List Row} (hp : ∀ x ∈ l, 0 < x.2.2) {x : Row} (hx : x ∈ l) : x.2.2 ≤ total l := by
  unfold total
  rw [many_all]
  induction l with
  | nil => cases hx
  | cons y l ih =>
    rw [List.map_cons, List.sum_cons]
    have h1 := hp y List.mem_cons_self
    have h2 : 0 ≤ (l.map (·.2.2)).sum := by
      rw [← many_all]
      exact many_nn (fun z hz => hp z (List.mem_cons_of_mem _ hz)) _ _
    rcases List.mem_cons.mp hx with e | hx
    · rw [e]
      omega
    · have := ih (fun z hz => hp z (List.mem_cons_of_mem _ hz)) hx
      omega
theorem std_sm (y : YardOk T bks v j r bk) (ym : YardMore T r bk) (ht : t ∈ r) {l : List Row} (hl : l ∈ std bk (tgt r t)) : (∀ x ∈ l, RowSm x) ∧ l.length ≤ 10 := by
  obtain ⟨g, s, pos⟩ := std_mem hl
  have c := y.caps ht
  refine ⟨fun x hx => ?_, by have := g.len; have := c.few; omega⟩
  have hm := g.mem x hx
  obtain ⟨e1, e2, _⟩ := tgt_mem hm
  have e1 : x.2.1 = t := e1
  have e2 : x.1 ∈ r := e2
  have h1 := total_row g.pos hx
  have h2 := c.cap l s
  have h3 := g.pos x hx
  exact ⟨⟨(y.pl _ e2).1, ym.sm _ e2⟩, ⟨by rw [e1]; exact (y.pl _ ht).1, by rw [e1]; exact ym.sm _ ht⟩, by omega, by omega⟩
theorem std_some (y : YardOk T bks v j r bk) (ym : YardMore T r bk) (ht : t ∈ r) : std bk (tgt r t) ≠ [] := fun e => by
  have c := y.caps ht
  have hl := tgt_len y.nd ht
  have h2 := y.two
  cases hp : tgt r t with
  | nil =>
    rw [hp] at hl
    simp at hl
    omega
  | cons p ps =>
    have hm : p ∈ tgt r t := by rw [hp]; exact List.mem_cons_self
    have hm2 : p ∈ pairsOf r := by
      rw [← tgt_eq y.nd ht] at hm
      exact (List.mem_filter.mp hm).1
    have s := ym.one p hm2
    have g : Good (tgt r t) [(p.1, p.2, 1)] := ⟨fun x hx => by rw [List.mem_singleton.mp hx]; exact hm, fun x hx => by rw [List.mem_singleton.mp hx]; exact (by decide : (0 : Int) < 1), List.pairwise_singleton _ _⟩
    have := std_all c g s (show 0 < total [(p.1, p.2, 1)] from (by decide : (0 : Int) < 1))
    rw [e] at this
    cases this
def abv (bk : List Alt) (ps : List (Int × Int)) (x : List Row) : List (List Row) := (HH bk ps).filter fun h => x.all fun w => decide (w.2.2 ≤ manyR h (some w.1) (some w.2.1))
theorem HH_mem {ps : List (Int × Int)} {h : List Row} (hh : h ∈ HH bk ps) : h ∈ std bk ps := LL_mem.mp (List.mem_filter.mp hh).1
theorem abv_some (y : YardOk T bks v j r bk) (ht : t ∈ r) {x : List Row} (hx : x ∈ std bk (tgt r t)) : ∃ g rest, abv bk (tgt r t) x = g :: rest ∧ g ∈ std bk (tgt r t) ∧ ∀ w ∈ x, ∃ s ∈ g, s.1 = w.1 ∧ s.2.1 = w.2.1 ∧ w.2.2 ≤ s.2.2 := by
  have c := y.caps ht
  obtain ⟨gx, sx, px⟩ := std_mem hx
  obtain ⟨h, h1, h2, h3⟩ := under c 4 x (by omega) hx
  have hm : h ∈ abv bk (tgt r t) x := by
    refine List.mem_filter.mpr ⟨List.mem_filter.mpr ⟨LL_mem.mpr h1, h2⟩, List.all_eq_true.mpr fun w hw => ?_⟩
    rw [decide_eq_true_eq]
    have k := h3 _ (gx.mem w hw)
    rw [cnt_mem gx hw] at k
    exact k
  cases e : abv bk (tgt r t) x with
  | nil =>
    rw [e] at hm
    cases hm
  | cons g rest =>
    have hg : g ∈ abv bk (tgt r t) x := by rw [e]; exact List.mem_cons_self
    obtain ⟨k1, k2⟩ := List.mem_filter.mp hg
    have k3 := HH_mem k1
    refine ⟨g, rest, rfl, k3, fun w hw => ?_⟩
    have k4 := List.all_eq_true.mp k2 w hw
    rw [decide_eq_true_eq] at k4
    have p := gx.pos w hw
    obtain ⟨s, hs, ks⟩ := cnt_pos (l := g) (k := keyR w) (by show 0 < manyR g (some w.1) (some w.2.1); omega)
    have e2 := cnt_mem (std_mem k3).1 hs
    rw [ks] at e2
    refine ⟨s, hs, (keyR_ext ks).1, (keyR_ext ks).2, ?_⟩
    have e3 : cnt g (keyR w) = manyR g (some w.1) (some w.2.1) := rfl
    omega
end
end K26
set_option Elab.async false
set_option linter.all false
set_option maxRecDepth 100000
set_option maxHeartbeats 400000
namespace K26
open PySem PySem.Spec PyProof.Rows L2
/-! ## the turn -/
section
variable {c0 aw : D} {T : List (List Int)} {bks : List (List Alt)} {v j : Nat} {r : List Int} {bk : List Alt} {t : Int}
abbrev stT (p : Addr) (la ya bo at' : D) (c0 aw : D) (T : List (List Int)) (bks : List (List Alt)) (v : Nat) (bk : List Alt) (r : List Int) (met : List (List Row)) (t : Int) (s12 s13 s14 s15 s16 s17 : Sl) : DS :=
  [.pot p none, .dat la, .dat (cD c0 T aw), .dat ya, .dat bo, .dat (natD v), .dat (wC c0 T aw bks), .dat at', .dat (bookD bk), .dat (intsD r), .dat (.lst (met.map loadL)), .dat (.int t), s12, s13, s14, s15, s16, s17, .no, .no]
theorem nb_true (P : D → Prop) (k : P (.bl false)) : nbOp (.bl true) (.bl true) P := k
theorem p_turn {E : DEnds} {p : Addr} {la ya bo at' : D} (y : YardOk T bks v j r bk) (ym : YardMore T r bk) (ht : t ∈ r) (o1 : la.old = true) (o2 : (cD c0 T aw).old = true) (o3 : ya.old = true) (o4 : bo.old = true) (o5 : (wC c0 T aw bks).old = true) (o6 : at'.old = true)
    (met : List (List Row)) (hmet : ∀ x ∈ met, x ∉ std bk (tgt r t)) (hml : met.length < 90000) (s12 s13 : Sl) (p12 : plainS s12 = true) (p13 : plainS s13 = true)
    (q : E.nx (stT p la ya bo at' c0 aw T bks v bk r (met ++ LL bk (tgt r t)) t (.dat (.lst ((LL bk (tgt r t)).map loadL))) (.dat (.lst ((HH bk (tgt r t)).map loadL))) .no .no .no .no)) : m_turn E (stT p la ya bo at' c0 aw T bks v bk r met t s12 s13 .no .no .no .no) := by
  have c := y.caps ht
  have hn : r.length ≤ 10 := Nat.le_trans y.few (by decide)
  have sl := std_len c
  have ll : (LL bk (tgt r t)).length < 1024 := by rw [LL_perm.length_eq]; exact sl
  have hl : (HH bk (tgt r t)).length < 1024 := Nat.lt_of_le_of_lt (List.length_filter_le _ _) ll
  have rL : ReprOk (.list (D.pys ((LL bk (tgt r t)).map loadL))) := (sm_loads (fun l hl => std_sm y ym ht (LL_mem.mp hl)) (Nat.le_of_lt ll)).repr (by decide) (by decide)
  have rH : ReprOk (.list (D.pys ((HH bk (tgt r t)).map loadL))) := (sm_loads (fun l hl => std_sm y ym ht (HH_mem hl)) (Nat.le_of_lt hl)).repr (by decide) (by decide)
  have ob : ((LL bk (tgt r t)).map loadL |> D.lst).old = true := olds_of old_load _
  have oh : ((HH bk (tgt r t)).map loadL |> D.lst).old = true := olds_of old_load _
  have om : ((met.map loadL) |> D.lst).old = true := olds_of old_load _
  refine sq_par (i := 12) (k := 13) (d := .lst ((LL bk (tgt r t)).map loadL)) (e := .lst ((HH bk (tgt r t)).map loadL)) (ee_call (ds := [bookD bk, intsD r, .int t]) (ea_cons (v_at rfl) (ea_cons (v_at rfl) (ea_cons (v_at rfl) ea_nil))) fun P k => p_law_towards hn c y.bs y.nd ht k) (ee_call (ds := [bookD bk, intsD r, .int t]) (ea_cons (v_at rfl) (ea_cons (v_at rfl) (ea_cons (v_at rfl) ea_nil))) fun P k => p_law_heaviest hn c y.bs y.nd ht k) ⟨_, rfl⟩ ⟨_, rfl⟩ ?_
  refine ⟨p, _, rfl, ?_, ?_⟩
  · show (plainS (.dat la) && (plainS (.dat (cD c0 T aw)) && (plainS (.dat ya) && (plainS (.dat bo) && (plainS (.dat (natD v)) && (plainS (.dat (wC c0 T aw bks)) && (plainS (.dat at') && (plainS (.dat (bookD bk)) && (plainS (.dat (intsD r)) && (plainS (.dat (.lst (met.map loadL))) && (plainS (.dat (.int t)) && (plainS (.dat (.lst ((LL bk (tgt r t)).map loadL))) && (plainS (.dat (.lst ((HH bk (tgt r t)).map loadL))) && true))))))))))))) = true
    have e : ∀ d : D, plainS (.dat d) = d.old := fun _ => rfl
    rw [e, e, e, e, e, e, e, e, e, e, e, e, e, o1, o2, o3, o4, o5, o6, old_book, old_ints, om, ob, oh]
    rfl
  -- the first part
  have e1 : EvE (dCall fs_loads_towards [] (dCons (dVar 6) (dCons (dVar 5) (dCons (dVar 11) dNil)))) (stT p la ya bo at' c0 aw T bks v bk r met t (.dat (.lst ((LL bk (tgt r t)).map loadL))) (.dat (.lst ((HH bk (tgt r t)).map loadL))) .no .no .no .no) (.new ((LL bk (tgt r t)).map loadN)) :=
    ee_call (ds := [wC c0 T aw bks, natD v, .int t]) (ea_cons (v_at rfl) (ea_cons (v_at rfl) (ea_cons (v_at rfl) ea_nil))) fun P k => p_loads_towards y ht k
  have e2 : EvE (dCallW fs_heaviest (dCons (dVar 11) (dCons (dVar 5) (dCons (dVar 6) dNil)))) (stT p la ya bo at' c0 aw T bks v bk r met t (.dat (.lst ((LL bk (tgt r t)).map loadL))) (.dat (.lst ((HH bk (tgt r t)).map loadL))) .no .no .no .no) (.new ((HH bk (tgt r t)).map loadN)) :=
    ee_callW (ds := [.int t, natD v, wC c0 T aw bks]) (ea_cons (v_at rfl) (ea_cons (v_at rfl) (ea_cons (v_at rfl) ea_nil))) fun P k => p_heaviest y ht k
  refine sq_par (i := 14) (k := 15) e1 e2 ⟨_, rfl⟩ ⟨_, rfl⟩ ?_
  refine sq_if (δ := stT p la ya bo at' c0 aw T bks v bk r met t (.dat (.lst ((LL bk (tgt r t)).map loadL))) (.dat (.lst ((HH bk (tgt r t)).map loadL))) (.dat (.new ((LL bk (tgt r t)).map loadN))) (.dat (.new ((HH bk (tgt r t)).map loadN))) .no .no) (b := false) ?_ (fun z => nomatch z) fun _ => sq_next ?_
  · refine ev_or (b := false) (c := false) (ev_tst (ee_op (x := .str (PyData.list (D.pys ((LL bk (tgt r t)).map loadL))).shown) (y := .str (PyData.list (D.pys ((LL bk (tgt r t)).map loadL))).shown) (ee_cb (xs := [.new ((LL bk (tgt r t)).map loadN)]) (ea_cons (v_at rfl) ea_nil) (repr_N rL)) (ee_cb (xs := [.lst ((LL bk (tgt r t)).map loadL)]) (ea_cons (v_at rfl) ea_nil) (repr_L rL)) (neS_same _))) fun _ => ?_
    refine ev_or (b := false) (c := false) (ev_tst (ee_op (x := .str (PyData.list (D.pys ((HH bk (tgt r t)).map loadL))).shown) (y := .str (PyData.list (D.pys ((HH bk (tgt r t)).map loadL))).shown) (ee_cb (xs := [.new ((HH bk (tgt r t)).map loadN)]) (ea_cons (v_at rfl) ea_nil) (repr_N rH)) (ee_cb (xs := [.lst ((HH bk (tgt r t)).map loadL)]) (ea_cons (v_at rfl) ea_nil) (repr_L rH)) (neS_same _))) fun _ => ?_
    exact ev_tst (ee_op (x := .new ((HH bk (tgt r t)).map loadN)) (y := .new ((HH bk (tgt r t)).map loadN)) (ee_call (ds := [wC c0 T aw bks, natD v, .int t]) (ea_cons (v_at rfl) (ea_cons (v_at rfl) (ea_cons (v_at rfl) ea_nil))) fun P k => p_heaviest y ht k) (v_at rfl) (ne_new rH))
  -- the loop over the loads
  refine for_by loadN (LL bk (tgt r t)) (fun rest δ => ∃ (dn : List (List Row)) (s16 s17 : Sl), LL bk (tgt r t) = dn ++ rest ∧ δ = stT p la ya bo at' c0 aw T bks v bk r met t (.dat (.lst ((LL bk (tgt r t)).map loadL))) (.dat (.lst ((HH bk (tgt r t)).map loadL))) (.dat (.new ((LL bk (tgt r t)).map loadN))) (.dat (.new ((HH bk (tgt r t)).map loadN))) s16 s17) (ei_new (a := dVar 14) (v_at rfl)) ⟨[], _, _, rfl, rfl⟩ ?_ ?_
  · rintro x rest δ ⟨dn, s16, s17, er, rfl⟩
    have hx : x ∈ std bk (tgt r t) := LL_mem.mp (by rw [er]; exact List.mem_append_right _ List.mem_cons_self)
    obtain ⟨gx, sx, px⟩ := std_mem hx
    have xl := gx.len
    have few := c.few
    obtain ⟨g, ar, ea, hg, hle⟩ := abv_some y ht hx
    obtain ⟨gg, sg, pg⟩ := std_mem hg
    have gl := gg.len
    refine ⟨stT p la ya bo at' c0 aw T bks v bk r met t (.dat (.lst ((LL bk (tgt r t)).map loadL))) (.dat (.lst ((HH bk (tgt r t)).map loadL))) (.dat (.new ((LL bk (tgt r t)).map loadN))) (.dat (.new ((HH bk (tgt r t)).map loadN))) (.dat (loadN x)) s17, fun P k => k, ?_⟩
    refine sq_if (b := false) ?_ (fun z => nomatch z) fun _ => sq_next ?_
    · refine ev_or (b := false) (c := false) (ev_tst (ee_op (x := .bl true) (y := .bl true) (ee_call (ds := [wC c0 T aw bks, natD v, loadL x]) (ea_cons (v_at rfl) (ea_cons (v_at rfl) (ea_cons (fun P k => k) ea_nil))) fun P k => p_lets y (tgt_sub y ht gx) (by omega) sx k) (fun P k => k) nb_true)) fun _ => ?_
      exact ev_tst (ee_op (x := loadN x) (y := .lst (met.map loadL)) (v_at rfl) (v_at rfl) (not_met fun z => hmet x z hx))
    have e3 : EvE (dLc (dItL (dVar 15)) (gNm 18) (dTst (dCB allD (dCons (dLc (dItL (dVar 16)) (gNm 19) dYes (dOp cLe (dOp ixOp (dVar 19) (dC (.int 2))) (dCall fs_law_many [] (dCons (dVar 18) (dCons (dOp ixOp (dVar 19) (dC (.int 0))) (dCons (dOp ixOp (dVar 19) (dC (.int 1))) dNil))))) [19]) dNil))) (dVar 18) [18])
        (stT p la ya bo at' c0 aw T bks v bk r met t (.dat (.lst ((LL bk (tgt r t)).map loadL))) (.dat (.lst ((HH bk (tgt r t)).map loadL))) (.dat (.new ((LL bk (tgt r t)).map loadN))) (.dat (.new ((HH bk (tgt r t)).map loadN))) (.dat (loadN x)) s17) (.lst ((abv bk (tgt r t) x).map loadN)) := by
      refine ee_lc loadN (fun h => x.all fun w => decide (w.2.2 ≤ manyR h (some w.1) (some w.2.1))) loadN (HH bk (tgt r t)) (ei_new (v_at rfl)) rfl (by omega) fun h hh => ⟨[.pot p none, .dat la, .dat (cD c0 T aw), .dat ya, .dat bo, .dat (natD v), .dat (wC c0 T aw bks), .dat at', .dat (bookD bk), .dat (intsD r), .dat (.lst (met.map loadL)), .dat (.int t), .dat (.lst ((LL bk (tgt r t)).map loadL)), .dat (.lst ((HH bk (tgt r t)).map loadL)), .dat (.new ((LL bk (tgt r t)).map loadN)), .dat (.new ((HH bk (tgt r t)).map loadN)), .dat (loadN x), s17, .dat (loadN h), .no], fun P k => k, rfl, ?_, fun _ => v_at rfl⟩
      have hl2 := (std_mem (HH_mem hh)).1.len
      refine ev_tst (ee_cb (xs := [.lst (x.map fun w => .bl (decide (w.2.2 ≤ manyR h (some w.1) (some w.2.1))))]) (ea_cons (ee_lc1 rowD (fun w => .bl (decide (w.2.2 ≤ manyR h (some w.1) (some w.2.1)))) x (ei_new (v_at rfl)) rfl (by omega) fun w hw => ⟨[.pot p none, .dat la, .dat (cD c0 T aw), .dat ya, .dat bo, .dat (natD v), .dat (wC c0 T aw bks), .dat at', .dat (bookD bk), .dat (intsD r), .dat (.lst (met.map loadL)), .dat (.int t), .dat (.lst ((LL bk (tgt r t)).map loadL)), .dat (.lst ((HH bk (tgt r t)).map loadL)), .dat (.new ((LL bk (tgt r t)).map loadN)), .dat (.new ((HH bk (tgt r t)).map loadN)), .dat (loadN x), s17, .dat (loadN h), .dat (rowD w)], fun P k => k, rfl, fun P k => k, fun _ => ?_⟩) ea_nil) (all_bls (fun w : Row => decide (w.2.2 ≤ manyR h (some w.1) (some w.2.1))) x))
      exact ee_op (x := .int w.2.2) (y := .int (manyR h (some w.1) (some w.2.1))) (row_at2 rfl) (ee_call (ds := [loadN h, .int w.1, .int w.2.1]) (ea_cons (v_at rfl) (ea_cons (row_at0 rfl) (ea_cons (row_at1 rfl) ea_nil))) fun P k => p_law_many (o := some w.1) (t := some w.2.1) (.inr rfl) (by omega) k) fun P k => k
    refine sq_set (i := 17) e3 ⟨_, rfl⟩ ?_
    rw [ea]
    refine st_if (δ := stT p la ya bo at' c0 aw T bks v bk r met t (.dat (.lst ((LL bk (tgt r t)).map loadL))) (.dat (.lst ((HH bk (tgt r t)).map loadL))) (.dat (.new ((LL bk (tgt r t)).map loadN))) (.dat (.new ((HH bk (tgt r t)).map loadN))) (.dat (loadN x)) (.dat (.lst ((g :: ar).map loadN)))) (b := false) ?_ (fun z => nomatch z) fun _ => ⟨rest, rfl, dn ++ [x], .dat (loadN x), .dat (.lst ((g :: ar).map loadN)), by rw [List.append_assoc]; exact er, rfl⟩
    refine ev_or (b := false) (c := false) (ev_tst (ee_op (x := .lst ((g :: ar).map loadN)) (y := .lst []) (v_at rfl) (fun P k => k) fun P k => ⟨⟨(Nc.lst (mem_map_all nc_loadN)).ok, (Nc.lst (n := 0) (ds := []) (fun _ z => nomatch z)).ok⟩, by
      have e : PyData.eqv (D.lst ((g :: ar).map loadN)).py (D.lst []).py = ((g :: ar).map loadN).isEmpty := eqv_nil _
      rw [e]
      exact k⟩)) fun _ => ?_
    have e4 : EvE (dOld (dOp ixOp (dVar 17) (dC (.int 0)))) (stT p la ya bo at' c0 aw T bks v bk r met t (.dat (.lst ((LL bk (tgt r t)).map loadL))) (.dat (.lst ((HH bk (tgt r t)).map loadL))) (.dat (.new ((LL bk (tgt r t)).map loadN))) (.dat (.new ((HH bk (tgt r t)).map loadN))) (.dat (loadN x)) (.dat (.lst ((g :: ar).map loadN)))) (loadL g) := fun P k => ⟨loadN g, atI_nat (j := 0) rfl, k⟩
    exact ev_tst (ee_op (x := .bl true) (y := .bl true) (ee_call (ds := [cD c0 T aw, natD v, loadL x, loadL g]) (ea_cons (v_at rfl) (ea_cons (v_at rfl) (ea_cons (fun P k => k) (ea_cons e4 ea_nil)))) fun P k => p_is_at_most y (tgt_sub y ht gx) (tgt_sub y ht gg) (by omega) (by omega) hle k) (fun P k => k) nb_true)
  · rintro δ ⟨dn, s16, s17, er, rfl⟩
    have ne : LL bk (tgt r t) ≠ [] := fun z => std_some y ym ht (by
      have := LL_perm (bk := bk) (ps := tgt r t)
      rw [z] at this
      exact this.symm.eq_nil)
    refine ⟨?_, ?_⟩
    · cases eL : LL bk (tgt r t) with
      | nil => exact absurd eL ne
      | cons x rest =>
        have hx : x ∈ std bk (tgt r t) := LL_mem.mp (by rw [eL]; exact List.mem_cons_self)
        have xl := (std_mem hx).1.len
        have few := c.few
        rw [eL, List.length_cons] at ll
        refine ⟨x.map rowD, rest.map loadN, (HH bk (tgt r t)).map loadN, rfl, ?_, rfl, by rw [List.length_map]; omega, ?_, ?_⟩
        · rfl
        · rw [List.length_map]
          omega
        · rw [List.length_map]
          omega
    · have e5 : EvE (dOp catOp (dVar 10) (dVar 12)) (stT p la ya bo at' c0 aw T bks v bk r met t (.dat (.lst ((LL bk (tgt r t)).map loadL))) (.dat (.lst ((HH bk (tgt r t)).map loadL))) .no .no .no .no) (.lst ((met ++ LL bk (tgt r t)).map loadL)) :=
        ee_op (x := .lst (met.map loadL)) (y := .lst ((LL bk (tgt r t)).map loadL)) (v_at rfl) (v_at rfl) fun P k => ⟨by rw [List.length_map, List.length_map]; omega, by rw [List.map_append] at k; exact k⟩
      refine st_set (δ := stT p la ya bo at' c0 aw T bks v bk r met t (.dat (.lst ((LL bk (tgt r t)).map loadL))) (.dat (.lst ((HH bk (tgt r t)).map loadL))) .no .no .no .no) (i := 10) e5 ⟨_, rfl⟩ ?_
      show m_post E (stT p la ya bo at' c0 aw T bks v bk r (met ++ LL bk (tgt r t)) t (.dat (.lst ((LL bk (tgt r t)).map loadL))) (.dat (.lst ((HH bk (tgt r t)).map loadL))) .no .no .no .no)
      refine st_if (δ := stT p la ya bo at' c0 aw T bks v bk r (met ++ LL bk (tgt r t)) t (.dat (.lst ((LL bk (tgt r t)).map loadL))) (.dat (.lst ((HH bk (tgt r t)).map loadL))) .no .no .no .no) (b := false) ?_ (fun z => nomatch z) fun _ => q
      exact ev_tst (ee_op (x := .new ((LL bk (tgt r t)).map loadN)) (y := .lst ((LL bk (tgt r t)).map loadL)) (ee_callW (ds := [.int t, natD v, wC c0 T aw bks]) (ea_cons (v_at rfl) (ea_cons (v_at rfl) (ea_cons (v_at rfl) ea_nil))) fun P k => p_loads_towards y ht k) (v_at rfl) (ne_mix rL))
end
end K26
set_option Elab.async false
set_option linter.all false
set_option maxRecDepth 100000
set_option maxHeartbeats 400000
namespace K26
open PySem PySem.Spec PyProof.Rows L2
/-! ## what the pot gives -/
theorem cmul_small {i k : Int} (h0 : 0 ≤ i) (h1 : i < 2147483648) : CMul i k := by
  have e : (2 : Int) ^ 64 = 18446744073709551616 := by decide
  refine .inl ⟨?_, ?_⟩ <;> rw [e] <;> omega
section
variable {Q : D → Prop}
theorem p_law_draw {n : Int} (h0 : 0 < n) (h1 : n < 1000000) (q : ∀ k, 0 ≤ k → k < n → Q (.int k)) : fs_law_draw [.int n] Q := by
  intro p i j po
  obtain ⟨hi, hj0, hj1⟩ := po
  refine sq_if (δ := [.pot p (some (i, j)), .dat (.int n), .no]) (b := decide (0 < i)) (ev_tst (ee_op (x := .int i) (y := .int 0) (fun P k => k) (fun P k => k) fun P k => k)) (fun e => ?_) fun e => sq_next ?_
  · refine sq_assoc ?_
    refine sq_asg (d := .tup [.int (i / n), .int (i % n)]) (δ2 := [.pot p (some (i / n, j)), .dat (.int n), .dat (.int (i % n))]) (ee_cb (xs := [.int i, .int n]) (ea_cons (fun P k => k) (ea_cons (v_at rfl) ea_nil)) fun P k => ⟨⟨h0, by omega⟩, k⟩) (fun P k => k) ?_
    exact sq_ret (d := .int (i % n)) (v_at rfl) ⟨⟨_, rfl, fun a b z => by
      cases z
      exact ⟨Int.ediv_nonneg hi (Int.le_of_lt h0), hj0, hj1⟩⟩, q _ (Int.emod_nonneg _ (by omega)) (Int.emod_lt_of_pos _ h0)⟩
  · have m0 := Int.emod_nonneg (j * 39373 + 891) (show (2147483629 : Int) ≠ 0 by decide)
    have m1 := Int.emod_lt_of_pos (j * 39373 + 891) (show (0 : Int) < 2147483629 by decide)
    have e1 : EvE (dOp iMod (dCB intD (dCons (dOp iAdd (dOp iMul (dPotGet 0 true) (dC (.int 39373))) (dC (.int 891))) dNil)) (dC (.int 2147483629))) [.pot p (some (i, j)), .dat (.int n), .no] (.int ((j * 39373 + 891) % 2147483629)) :=
      ee_op (x := .int (j * 39373 + 891)) (y := .int 2147483629) (ee_cb (xs := [.int (j * 39373 + 891)]) (ea_cons (ee_op (x := .int (j * 39373)) (y := .int 891) (ee_op (x := .int j) (y := .int 39373) (fun P k => k) (fun P k => k) fun P k => ⟨cmul_small hj0 hj1, k⟩) (fun P k => k) fun P k => k) ea_nil) fun P k => k) (fun P k => k) fun P k => ⟨(show (0 : Int) < 2147483629 by decide), k⟩
    generalize (j * 39373 + 891) % 2147483629 = j2 at *
    refine sq_asg (d := .int j2) (δ2 := [.pot p (some (i, j2)), .dat (.int n), .no]) e1 (fun P k => k) ?_
    have e2 : EvE (dOp iMod (dCB intD (dCons (dOp iFd (dOp iMod (dCB intD (dCons (dOp iMul (dPotGet 0 true) (dPotGet 0 true)) dNil)) (dC (.int 2147483587))) (dC (.int 13))) dNil)) (dVar 1)) [.pot p (some (i, j2)), .dat (.int n), .no] (.int (j2 * j2 % 2147483587 / 13 % n)) :=
      ee_op (x := .int (j2 * j2 % 2147483587 / 13)) (y := .int n) (ee_cb (xs := [.int (j2 * j2 % 2147483587 / 13)]) (ea_cons (ee_op (x := .int (j2 * j2 % 2147483587)) (y := .int 13) (ee_op (x := .int (j2 * j2)) (y := .int 2147483587) (ee_cb (xs := [.int (j2 * j2)]) (ea_cons (ee_op (x := .int j2) (y := .int j2) (fun P k => k) (fun P k => k) fun P k => ⟨cmul_small m0 (by omega), k⟩) ea_nil) fun P k => k) (fun P k => k) fun P k => ⟨(show (0 : Int) < 2147483587 by decide), k⟩) (fun P k => k) fun P k => ⟨⟨by decide, by decide⟩, k⟩) ea_nil) fun P k => k) (v_at rfl) fun P k => ⟨h0, k⟩
    exact st_ret e2 ⟨⟨_, rfl, fun a b z => by
      cases z
      exact ⟨hi, m0, by omega⟩⟩, q _ (Int.emod_nonneg _ (by omega)) (Int.emod_lt_of_pos _ h0)⟩
/-- a call with the pot: whatever it may give -/
theorem cp_by {f : DSp} {l : DTA} {δ : DS} {ds : List D} {p : Addr} {rest : DS} {P : D → DS → Prop} (hp : δ = .pot p none :: rest) (hl : EvA l δ ds) (h : f ds fun d => P d δ) : dCallP 0 f l δ P := by
  subst hp
  exact hl _ h
theorem p_law_pick {ds : List D} (h0 : ds ≠ []) (h1 : ds.length < 100000) (q : ∀ d ∈ ds, Q d) : fs_law_pick [.lst ds] Q := by
  intro p i j po
  have hl : 0 < ds.length := List.length_pos_iff.mpr h0
  show dVar 1 [.pot p none, .dat (.lst ds)] fun x δ1 => dCallP 0 fs_law_draw (dCons (dCB lenD (dCons (dVar 1) dNil)) dNil) δ1 fun y δ2 => ixOp x y fun z => (potE p Q).rt z δ2
  refine (v_at (δ := [.pot p none, .dat (.lst ds)]) (i := 1) rfl) _ ?_
  refine cp_by (rest := [.dat (.lst ds)]) rfl (ds := [.int (ds.length : Nat)]) (ea_cons (ee_cb (xs := [.lst ds]) (ea_cons (v_at rfl) ea_nil) fun P k => k) ea_nil) (p_law_draw (by omega) (by omega) fun k k0 k1 => ?_)
  obtain ⟨n, rfl⟩ : ∃ n : Nat, k = n := ⟨k.toNat, by omega⟩
  have hn : n < ds.length := by omega
  exact ⟨ds[n], atI_nat (List.getElem?_eq_getElem hn), ⟨none, rfl, fun a b z => nomatch z⟩, q _ (List.getElem_mem hn)⟩
theorem erase_perm {α : Type} : ∀ (l : List α) (n : Nat) (x : α), l[n]? = some x → (x :: l.eraseIdx n).Perm l
  | [], n, x, h => by
    rw [List.getElem?_nil] at h
    cases h
  | y :: l, 0, x, h => by
    cases (show some y = some x from h)
    exact .refl _
  | y :: l, n + 1, x, h => by
    show (x :: y :: l.eraseIdx n).Perm (y :: l)
    exact (List.Perm.swap y x _).trans ((erase_perm l n x h).cons y)
theorem st_append_pop {E : DEnds} {δ : DS} {i j : Nat} {X : DTE} {left fd : List D} (ho : δ[i]? = some (.own fd)) (hl : δ[j]? = some (.own left)) (hij : j ≠ i) (hX : ∀ P : D → DS → Prop, (∀ m : Nat, m < left.length → P (.int (m : Nat)) δ) → X δ P) (h1 : left.length < 90000) (h2 : fd.length < 90000)
    (q : ∀ (m : Nat) (x : D), left[m]? = some x → E.nx ((δ.set j (.own (left.eraseIdx m))).set i (.own (fd ++ [x])))) : dAppend i (dPopAt j X) E δ := by
  unfold dAppend dPopAt ownS
  rw [ho]
  show (match δ[j]? with | some (.own _) => _ | _ => False)
  rw [hl]
  refine hX _ fun m hm => ?_
  show (match δ[j]? with | some (.own _) => _ | _ => False)
  rw [hl]
  refine ⟨⟨by omega, by omega⟩, left[m], by rw [Int.toNat_natCast]; exact List.getElem?_eq_getElem hm, ?_⟩
  rw [Int.toNat_natCast]
  dsimp only
  rw [List.getElem?_set_ne hij, ho]
  exact ⟨by omega, q m left[m] (List.getElem?_eq_getElem hm)⟩
theorem p_law_mixed {ds : List D} (h1 : ds.length < 1000) (q : ∀ es : List D, es.Perm ds → Q (.lst es)) : fs_law_mixed [.lst ds] Q := by
  intro p i j po
  have erg : EvI (dRg1 (dCons (dCB lenD (dCons (dVar 1) dNil)) dNil)) [.pot p none, .dat (.lst ds), .own ds, .own [], .no] ((List.range' 0 ds.length).map natD) := fun P k => by
    refine (ea_cons (ee_cb (xs := [.lst ds]) (z := .int (ds.length : Nat)) (ea_cons (v_at rfl) ea_nil) fun P k => k) ea_nil) _ ⟨by omega, ?_⟩
    rw [Int.toNat_natCast, show (0 : Int) = ((0 : Nat) : Int) from rfl, rg_nat]
    exact k
  have main : dSeq (dFor (dRg1 (dCons (dCB lenD (dCons (dVar 1) dNil)) dNil)) (gNm 4) (dAppend 3 (dPopAt 2 (dCallP 0 fs_law_draw (dCons (dLenO 2) dNil))))) (dRet (dVar 3)) (potE p Q) [.pot p none, .dat (.lst ds), .own ds, .own [], .no] := by
    refine sq_for natD (List.range' 0 ds.length) (fun r δ => ∃ (left fd : List D) (s4 : Sl), left.length = r.length ∧ (fd ++ left).Perm ds ∧ δ = [.pot p none, .dat (.lst ds), .own left, .own fd, s4]) erg ⟨ds, [], .no, by rw [List.length_range'], .refl _, rfl⟩ ?_ ?_
    · rintro n r δ ⟨left, fd, s4, hl, pm, rfl⟩
      have pl := pm.length_eq
      rw [List.length_append] at pl
      rw [List.length_cons] at hl
      refine ⟨[.pot p none, .dat (.lst ds), .own left, .own fd, .dat (natD n)], fun P k => k, ?_⟩
      refine st_append_pop (left := left) (fd := fd) rfl rfl (by decide) (fun P hP => cp_by (rest := [.dat (.lst ds), .own left, .own fd, .dat (natD n)]) rfl (ds := [.int (left.length : Nat)]) (fun P k => k) (p_law_draw (by omega) (by omega) fun k k0 k1 => ?_)) (by omega) (by omega) fun m x hx => ?_
      · obtain ⟨m, rfl⟩ : ∃ m : Nat, k = m := ⟨k.toNat, by omega⟩
        exact hP m (by omega)
      · have hm := (List.getElem?_eq_some_iff.mp hx).1
        refine ⟨r, rfl, left.eraseIdx m, fd ++ [x], .dat (natD n), by rw [List.length_eraseIdx, if_pos hm]; omega, ?_, rfl⟩
        rw [List.append_assoc]
        exact (List.Perm.append_left fd (erase_perm left m x hx)).trans pm
    · rintro δ ⟨left, fd, s4, hl, pm, rfl⟩
      have e : left = [] := List.eq_nil_of_length_eq_zero hl
      rw [e, List.append_nil] at pm
      exact ⟨⟨none, rfl, fun a b z => nomatch z⟩, q fd pm⟩
  exact main
end
end K26
set_option Elab.async false
set_option linter.all false
set_option maxRecDepth 100000
set_option maxHeartbeats 400000
namespace K26
open PySem PySem.Spec PyProof.Rows L2
/-! ## the lanes that are drawn -/
def deg (L : List (Int × Int)) (v : Nat) : Nat := (rowOf L v).length
theorem deg_app (L : List (Int × Int)) (p : Int × Int) (v : Nat) : deg (L ++ [p]) v = deg L v + (if p.1 = (v : Int) then 1 else 0) + (if p.2 = (v : Int) then 1 else 0) := by
  unfold deg rowOf
  rw [List.flatMap_append, List.length_append, List.flatMap_cons, List.flatMap_nil, List.append_nil, List.length_append]
  split <;> split <;> simp only [List.length_cons, List.length_nil] <;> omega
/-- lane k goes from an earlier place to place k + 1 -/
def Ch (L : List (Int × Int)) : Prop := ∀ (k : Nat) (p : Int × Int), L[k]? = some p → p.2 = ((k + 1 : Nat) : Int) ∧ 0 ≤ p.1 ∧ p.1 ≤ (k : Int)
theorem Ch.app {L : List (Int × Int)} (h : Ch L) {a : Nat} (ha : a ≤ L.length) : Ch (L ++ [((a : Int), ((L.length + 1 : Nat) : Int))]) := fun k p hp => by
  by_cases hk : k < L.length
  · rw [List.getElem?_append_left hk] at hp
    exact h k p hp
  · rw [List.getElem?_append_right (by omega)] at hp
    have e : k - L.length = 0 := by
      have := (List.getElem?_eq_some_iff.mp hp).1
      rw [List.length_singleton] at this
      omega
    rw [e] at hp
    cases hp
    have e2 : k = L.length := by omega
    subst e2
    exact ⟨rfl, by show (0 : Int) ≤ a; omega, by show (a : Int) ≤ (L.length : Int); omega⟩
theorem Ch.deg0 {L : List (Int × Int)} (h : Ch L) {v : Nat} (hv : L.length < v) : deg L v = 0 := by
  unfold deg
  rw [List.length_eq_zero_iff]
  unfold rowOf
  rw [List.flatMap_eq_nil_iff]
  intro p hp
  obtain ⟨k, hk⟩ := List.mem_iff_getElem?.mp hp
  have hl := (List.getElem?_eq_some_iff.mp hk).1
  obtain ⟨h1, h2, h3⟩ := h k p hk
  rw [if_neg (by omega), if_neg (by omega)]
  rfl
structure Drawn (m : Nat) (L : List (Int × Int)) : Prop where
  m1 : 1 ≤ m
  m3 : m ≤ 3
  ch : Ch L
  pa : ∀ p ∈ L, p.1 < (m : Int)
  ml : m ≤ L.length + 1
  lo : ∀ v, v < m → 2 ≤ deg L v
  hi : ∀ v, v < m → deg L v ≤ 4
  few : L.length ≤ 14
def degD (L : List (Int × Int)) (m : Nat) : List D := (List.range m).map fun v => natD (deg L v)
theorem degD_at {L : List (Int × Int)} {m v : Nat} (h : v < m) : (degD L m)[v]? = some (natD (deg L v)) := by
  unfold degD
  rw [List.getElem?_map, List.getElem?_range h]
  rfl
theorem degD_len (L : List (Int × Int)) (m : Nat) : (degD L m).length = m := by
  unfold degD
  rw [List.length_map, List.length_range]
theorem degD_set {L L' : List (Int × Int)} {m v : Nat} (h : ∀ u, u < m → u ≠ v → deg L' u = deg L u) : (degD L m).set v (natD (deg L' v)) = degD L' m := by
  refine List.ext_getElem? fun u => ?_
  by_cases hu : u < m
  · rw [degD_at hu, List.getElem?_set]
    by_cases e : v = u
    · subst e
      rw [if_pos rfl, degD_len, if_pos hu]
    · rw [if_neg e, degD_at hu, h u hu fun z => e z.symm]
  · have l1 := degD_len L m
    have l2 := degD_len L' m
    rw [List.getElem?_eq_none (by rw [List.length_set]; omega), List.getElem?_eq_none (by omega)]
section
variable {Q : D → Prop}
theorem ixo_at {i : Nat} {δ : DS} {a : DTE} {L : List (Int × Int)} {m v : Nat} (h : δ[i]? = some (.own (degD L m))) (ha : EvE a δ (natD v)) (hv : v < m) : EvE (dIxO i a) δ (natD (deg L v)) := fun P k => by
  show (match δ[i]? with | some (.own _) => a δ fun x δ1 => ownS i δ1 fun ds => (match x with | .int j => ∃ d, atI ds j = some d ∧ P d δ1 | _ => False) | _ => False)
  rw [h]
  refine ha _ ?_
  show (match δ[i]? with | some (.own ds) => (match natD v with | .int j => ∃ d, atI ds j = some d ∧ P d δ | _ => False) | _ => False)
  rw [h]
  exact ⟨natD (deg L v), atI_nat (degD_at hv), k⟩
theorem gsb_at {i : Nat} {δ : DS} {a : DTE} {d : D} {ds : List D} {v : Nat} {P : DS → Prop} (h : δ[i]? = some (.own ds)) (ha : EvE a δ (natD v)) (hv : v < ds.length) (q : P (δ.set i (.own (ds.set v d)))) : gSb i a d δ P := by
  show (match δ[i]? with | some (.own _) => a δ fun x δ1 => (match x, δ1[i]? with | .int j, some (.own ds) => (0 ≤ j ∧ j < ds.length) ∧ P (δ1.set i (.own (ds.set j.toNat d))) | _, _ => False) | _ => False)
  rw [h]
  refine ha _ ?_
  show (match natD v, δ[i]? with | .int j, some (.own ds) => (0 ≤ j ∧ j < ds.length) ∧ P (δ.set i (.own (ds.set j.toNat d))) | _, _ => False)
  rw [h]
  show ((0 : Int) ≤ (v : Int) ∧ (v : Int) < (ds.length : Int)) ∧ P (δ.set i (.own (ds.set (v : Int).toNat d)))
  rw [Int.toNat_natCast]
  exact ⟨⟨by omega, by omega⟩, q⟩
def laneD (a b : Nat) : D := .tup [natD a, natD b]
theorem gtp2 {g h : DTG} {a b : D} {δ : DS} {P : DS → Prop} (q : g a δ fun δ' => h b δ' P) : gTp (gCn g (gCn h gNl)) (.tup [a, b]) δ P := q
theorem sq_setc {i : Nat} {a : DTE} {u : DTS} {E : DEnds} {δ : DS} (h : a δ fun d δ' => putS i (.dat d) δ' (u E)) : dSeq (dSet i (dDat a)) u E δ := h
theorem lanes_test {p : Addr} {m y w : Nat} {L : List (Int × Int)} {s5 s6 s7 : Sl} (ym : y < m) : Ev (dOr (dTst (dOp cLt (dIxO 3 (dVar 4)) (dVar 8))) (dTst (dOp cLt (dIxO 3 (dVar 4)) (dC (.int 2))))) [.pot p none, .dat (natD m), .own (L.map pairD), .own (degD L m), .dat (natD y), s5, s6, s7, .dat (natD w), .no] (decide (deg L y < w) || decide (deg L y < 2)) := by
  have h1 : Ev (dTst (dOp cLt (dIxO 3 (dVar 4)) (dVar 8))) [.pot p none, .dat (natD m), .own (L.map pairD), .own (degD L m), .dat (natD y), s5, s6, s7, .dat (natD w), .no] (decide (deg L y < w)) :=
    ev_tst (ee_op (x := natD (deg L y)) (y := natD w) (ixo_at (i := 3) rfl (v_at (i := 4) rfl) ym) (v_at (i := 8) rfl) fun P k => by
      have e : decide (((deg L y : Nat) : Int) < (w : Nat)) = decide (deg L y < w) := by
        rw [decide_eq_decide]
        omega
      show P (.bl (decide (((deg L y : Nat) : Int) < (w : Nat))))
      rw [e]
      exact k)
  have h2 : Ev (dTst (dOp cLt (dIxO 3 (dVar 4)) (dC (.int 2)))) [.pot p none, .dat (natD m), .own (L.map pairD), .own (degD L m), .dat (natD y), s5, s6, s7, .dat (natD w), .no] (decide (deg L y < 2)) :=
    ev_tst (ee_op (x := natD (deg L y)) (y := natD 2) (ixo_at (i := 3) rfl (v_at (i := 4) rfl) ym) (fun P k => k) fun P k => by
      have e : decide (((deg L y : Nat) : Int) < ((2 : Nat) : Int)) = decide (deg L y < 2) := by
        rw [decide_eq_decide]
        omega
      show P (.bl (decide (((deg L y : Nat) : Int) < ((2 : Nat) : Int))))
      rw [e]
      exact k)
  exact ev_or h1 fun _ => h2
theorem lanes_pick {p : Addr} {m y : Nat} {L : List (Int × Int)} {s5 s6 s7 s8 : Sl} {P : D → DS → Prop} (k : ∀ w : Nat, 2 ≤ w → w ≤ 4 → P (natD w) [.pot p none, .dat (natD m), .own (L.map pairD), .own (degD L m), .dat (natD y), s5, s6, s7, s8, .no]) : dCallP 0 fs_law_pick (dCons (dLst (dCons (dC (.int 2)) (dCons (dC (.int 2)) (dCons (dC (.int 3)) (dCons (dC (.int 3)) (dCons (dC (.int 4)) dNil)))))) dNil) [.pot p none, .dat (natD m), .own (L.map pairD), .own (degD L m), .dat (natD y), s5, s6, s7, s8, .no] P :=
  cp_by rfl (ds := [.lst [natD 2, natD 2, natD 3, natD 3, natD 4]]) (fun P k => k) (p_law_pick (fun z => nomatch z) (by decide) fun d hd => by
    simp only [List.mem_cons, List.not_mem_nil, or_false] at hd
    rcases hd with rfl | rfl | rfl | rfl | rfl
    · exact k 2 (by decide) (by decide)
    · exact k 2 (by decide) (by decide)
    · exact k 3 (by decide) (by decide)
    · exact k 3 (by decide) (by decide)
    · exact k 4 (by decide) (by decide))
theorem lanes_fill {p : Addr} {m y w : Nat} {s5 s6 : Sl} {E : DEnds} (m3 : m ≤ 3) (ym : y < m) (w2 : 2 ≤ w) (w4 : w ≤ 4) {L : List (Int × Int)} (ch : Ch L) (pa : ∀ p ∈ L, p.1 < (m : Int)) (hi : ∀ u, u < m → deg L u ≤ 4) (lo : ∀ u, u < y → 2 ≤ deg L u) (lf : L.length ≤ 2 + 4 * y) (ml : m ≤ L.length + 1)
    (q : ∀ L : List (Int × Int), Ch L → (∀ p ∈ L, p.1 < (m : Int)) → (∀ u, u < m → deg L u ≤ 4) → (∀ u, u < y + 1 → 2 ≤ deg L u) → L.length ≤ 2 + 4 * (y + 1) → m ≤ L.length + 1 → E.nx [.pot p none, .dat (natD m), .own (L.map pairD), .own (degD L m), .dat (natD y), s5, s6, .dat (natD (L.length + 1)), .dat (natD w), .no]) : dWhile (dOr (dTst (dOp cLt (dIxO 3 (dVar 4)) (dVar 8))) (dTst (dOp cLt (dIxO 3 (dVar 4)) (dC (.int 2))))) (dSeq (dAppend 2 (dTup (dCons (dVar 4) (dCons (dVar 7) dNil)))) (dAsg (dTup (dCons (dOp iAdd (dVar 7) (dC (.int 1))) (dCons (dOp iAdd (dIxO 3 (dVar 4)) (dC (.int 1))) dNil))) (gTp (gCn (gNm 7) (gCn (gSb 3 (dVar 4)) gNl))))) E [.pot p none, .dat (natD m), .own (L.map pairD), .own (degD L m), .dat (natD y), s5, s6, .dat (natD (L.length + 1)), .dat (natD w), .no] := by
  refine wh_by (fun n δ => ∃ L : List (Int × Int), n = 4 - deg L y ∧ Ch L ∧ (∀ p ∈ L, p.1 < (m : Int)) ∧ (∀ u, u < m → deg L u ≤ 4) ∧ (∀ u, u < y → 2 ≤ deg L u) ∧ L.length ≤ 2 + 4 * y + deg L y ∧ m ≤ L.length + 1 ∧ δ = [.pot p none, .dat (natD m), .own (L.map pairD), .own (degD L m), .dat (natD y), s5, s6, .dat (natD (L.length + 1)), .dat (natD w), .no]) ⟨_, L, rfl, ch, pa, hi, lo, by omega, ml, rfl⟩ ?_
  rintro n δ ⟨L, en, ch, pa, hi, lo, lf, ml, rfl⟩
  refine ⟨decide (deg L y < w) || decide (deg L y < 2), ?_, fun e => ?_, fun e => ?_⟩
  · exact lanes_test ym
  · rw [Bool.or_eq_true, decide_eq_true_eq, decide_eq_true_eq] at e
    have dlt : deg L y < 4 := by omega
    have yl : y ≤ L.length := by omega
    have chn := ch.app yl
    have dn : ∀ u : Nat, deg (L ++ [((y : Int), ((L.length + 1 : Nat) : Int))]) u = deg L u + (if y = u then 1 else 0) + (if L.length + 1 = u then 1 else 0) := fun u => by
      rw [deg_app]
      have c1 : ((y : Int) = (u : Int)) ↔ y = u := by omega
      have c2 : (((L.length + 1 : Nat) : Int) = (u : Int)) ↔ L.length + 1 = u := by omega
      simp only [c1, c2]
    have dny : deg (L ++ [((y : Int), ((L.length + 1 : Nat) : Int))]) y = deg L y + 1 := by
      rw [dn, if_pos rfl, if_neg (by omega)]
    refine sq_append (i := 2) (d := laneD y (L.length + 1)) (ds := L.map pairD) (ee_tup (ea_cons (v_at rfl) (ea_cons (v_at rfl) ea_nil))) rfl (by rw [List.length_map]; omega) ?_
    refine (ee_tup (ea_cons (x := natD (L.length + 1 + 1)) (ee_op (x := natD (L.length + 1)) (y := natD 1) (v_at (i := 7) rfl) (fun P k => k) fun P k => k) (ea_cons (x := natD (deg L y + 1)) (ee_op (x := natD (deg L y)) (y := natD 1) (ixo_at (L := L) (m := m) (i := 3) rfl (v_at (i := 4) rfl) ym) (fun P k => k) fun P k => k) ea_nil)) : EvE _ [.pot p none, .dat (natD m), .own (L.map pairD ++ [laneD y (L.length + 1)]), .own (degD L m), .dat (natD y), s5, s6, .dat (natD (L.length + 1)), .dat (natD w), .no] (.tup [natD (L.length + 1 + 1), natD (deg L y + 1)])) _ ?_
    refine gtp2 ?_
    refine put_by (s := .dat (natD (L.length + 1 + 1))) ⟨_, rfl⟩ ?_
    refine gsb_at (δ := [.pot p none, .dat (natD m), .own (L.map pairD ++ [laneD y (L.length + 1)]), .own (degD L m), .dat (natD y), s5, s6, .dat (natD (L.length + 1 + 1)), .dat (natD w), .no]) (d := natD (deg L y + 1)) (i := 3) (a := dVar 4) (v := y) (ds := degD L m) rfl (v_at (i := 4) rfl) (by rw [degD_len]; omega) ?_
    refine ⟨4 - deg (L ++ [((y : Int), ((L.length + 1 : Nat) : Int))]) y, by rw [dny]; omega, L ++ [((y : Int), ((L.length + 1 : Nat) : Int))], rfl, chn, fun x hx => ?_, fun u hu => ?_, fun u hu => ?_, by rw [dny, List.length_append, List.length_singleton]; omega, by rw [List.length_append, List.length_singleton]; omega, ?_⟩
    · rcases List.mem_append.mp hx with h | h
      · exact pa x h
      · rw [List.mem_singleton.mp h]
        show (y : Int) < m
        omega
    · by_cases c1 : y = u
      · subst c1
        rw [dny]
        omega
      · rw [dn, if_neg c1, if_neg (by omega)]
        exact hi u hu
    · rw [dn]
      have := lo u hu
      omega
    · have e2 : (degD L m).set y (natD (deg L y + 1)) = degD (L ++ [((y : Int), ((L.length + 1 : Nat) : Int))]) m := by
        rw [← dny]
        exact degD_set fun u hu hne => by rw [dn, if_neg fun z => hne z.symm, if_neg (by omega)]; omega
      rw [← e2, List.map_append, List.length_append, List.length_singleton]
      rfl
  · rw [Bool.or_eq_false_iff, decide_eq_false_iff_not, decide_eq_false_iff_not] at e
    have := hi y ym
    refine q L ch pa hi (fun u hu => ?_) (by omega) ml
    by_cases c1 : u = y
    · subst c1
      omega
    · exact lo u (by omega)
theorem lanes_two {p : Addr} {m : Nat} (m1 : 1 ≤ m) (m3 : m ≤ 3) (q : ∀ L, Drawn m L → Q (.lst (L.map pairD))) {L : List (Int × Int)} {s4 s5 s6 : Sl} (hl2 : L.length + 1 = m) (ch : Ch L) (pa : ∀ p ∈ L, p.1 < (m : Int)) (hi : ∀ v, v < m → deg L v ≤ 4) : (dSeq (dSet 7 (dDat (dVar 1))) (dSeq (dFor (dRg1 (dCons (dVar 1) dNil)) (gNm 4) (dSeq (dSet 8 (dDat (dCallP 0 fs_law_pick (dCons (dLst (dCons (dC (.int 2)) (dCons (dC (.int 2)) (dCons (dC (.int 3)) (dCons (dC (.int 3)) (dCons (dC (.int 4)) dNil)))))) dNil)))) (dWhile (dOr (dTst (dOp cLt (dIxO 3 (dVar 4)) (dVar 8))) (dTst (dOp cLt (dIxO 3 (dVar 4)) (dC (.int 2))))) (dSeq (dAppend 2 (dTup (dCons (dVar 4) (dCons (dVar 7) dNil)))) (dAsg (dTup (dCons (dOp iAdd (dVar 7) (dC (.int 1))) (dCons (dOp iAdd (dIxO 3 (dVar 4)) (dC (.int 1))) dNil))) (gTp (gCn (gNm 7) (gCn (gSb 3 (dVar 4)) gNl)))))))) (dRet (dVar 2)))) (potE p Q) [.pot p none, .dat (natD m), .own (L.map pairD), .own (degD L m), s4, s5, s6, .no, .no, .no] := by
  -- each yard is filled up
  refine sq_set (i := 7) (d := natD (L.length + 1)) (by rw [hl2]; exact v_at rfl) ⟨_, rfl⟩ ?_
  refine sq_for natD (List.range' 0 m) (fun r δ => ∃ (L : List (Int × Int)) (v : Nat) (s4 s5 s6 s8 : Sl), v + r.length = m ∧ r = List.range' v r.length ∧ Ch L ∧ (∀ p ∈ L, p.1 < (m : Int)) ∧ (∀ u, u < m → deg L u ≤ 4) ∧ (∀ u, u < v → 2 ≤ deg L u) ∧ L.length ≤ 2 + 4 * v ∧ m ≤ L.length + 1 ∧ δ = [.pot p none, .dat (natD m), .own (L.map pairD), .own (degD L m), s4, s5, s6, .dat (natD (L.length + 1)), s8, .no])
    (fun P k => by
      refine (ea_cons (v_at (d := natD m) (i := 1) rfl) ea_nil) _ ⟨by omega, ?_⟩
      rw [Int.toNat_natCast, show (0 : Int) = ((0 : Nat) : Int) from rfl, rg_nat]
      exact k) ⟨L, 0, s4, s5, s6, .no, by rw [List.length_range']; omega, by rw [List.length_range'], ch, pa, hi, fun u hu => absurd hu (Nat.not_lt_zero u), by omega, by omega, rfl⟩ ?_ ?_
  · rintro y r δ ⟨L, v, s4, s5, s6, s8, hv, er, ch, pa, hi, lo, lf, ml, rfl⟩
    rw [List.length_cons] at hv er
    rw [List.range'_succ] at er
    injection er with ey er
    subst ey
    have ym : y < m := by omega
    refine ⟨[.pot p none, .dat (natD m), .own (L.map pairD), .own (degD L m), .dat (natD y), s5, s6, .dat (natD (L.length + 1)), s8, .no], fun P k => k, ?_⟩
    refine sq_setc ?_
    refine lanes_pick (m := m) (L := L) (y := y) (p := p) fun w w2 w4 => ?_
    refine put_by (s := .dat (natD w)) (i := 8) ⟨_, rfl⟩ ?_
    exact lanes_fill m3 ym w2 w4 ch pa hi lo lf ml fun L ch pa hi lo lf ml => ⟨r, rfl, L, y + 1, .dat (natD y), s5, s6, .dat (natD w), by omega, er, ch, pa, hi, lo, lf, ml, rfl⟩
  · rintro δ ⟨L, v, s4, s5, s6, s8, hv, _, ch, pa, hi, lo, lf, ml, rfl⟩
    have ev : v = m := hv
    subst ev
    exact ⟨⟨none, rfl, fun a b z => nomatch z⟩, q L ⟨m1, m3, ch, pa, ml, lo, hi, by omega⟩⟩
theorem p_law_lanes {m : Nat} (m1 : 1 ≤ m) (m3 : m ≤ 3) (q : ∀ L, Drawn m L → Q (.lst (L.map pairD))) : fs_law_lanes [natD m] Q := by
  intro p i j po
  have start : (List.replicate (m : Int).toNat [D.int 0]).flatten = degD [] m := by
    have h : m = 1 ∨ m = 2 ∨ m = 3 := by omega
    rcases h with h | h | h <;> subst h <;> rfl
  have st0 : ∀ E : DEnds, ∀ u : DTS, u E [.pot p none, .dat (natD m), .own [], .own (degD [] m), .no, .no, .no, .no, .no, .no] → dSeq (dPar 2 3 (dOwnL dNil) (dOwnR (dCons (dC (.int 0)) dNil) (dVar 1))) u E [.pot p none, .dat (natD m), .no, .no, .no, .no, .no, .no, .no, .no] := fun E u k => by
    refine (⟨⟨by omega, by omega, rfl⟩, ?_⟩ : (0 ≤ (m : Int) ∧ (m : Int) < 1000 ∧ [D.int 0].length = 1) ∧ u E [.pot p none, .dat (natD m), .own [], .own (List.replicate (m : Int).toNat [D.int 0]).flatten, .no, .no, .no, .no, .no, .no])
    rw [start]
    exact k
  refine st0 _ _ ?_
  -- the yards, joined
  refine sq_for natD (List.range' 1 (m - 1)) (fun r δ => ∃ (L : List (Int × Int)) (s4 s5 s6 : Sl), L.length + r.length + 1 = m ∧ r = List.range' (L.length + 1) r.length ∧ Ch L ∧ (∀ p ∈ L, p.1 < (m : Int)) ∧ (∀ v, v < m → deg L v ≤ 4) ∧ δ = [.pot p none, .dat (natD m), .own (L.map pairD), .own (degD L m), s4, s5, s6, .no, .no, .no])
    (fun P k => by
      refine (ea_cons (x := natD 1) (fun P k => k) (ea_cons (v_at (d := natD m) (i := 1) rfl) ea_nil)) _ ⟨by omega, ?_⟩
      have e : ((m : Int) - ((1 : Nat) : Int)).toNat = m - 1 := by omega
      rw [e, rg_nat]
      exact k) ⟨[], .no, .no, .no, by rw [List.length_range']; simp; omega, by rw [List.length_range']; rfl, fun k p h => (by simp at h), fun p h => (by cases h), fun v _ => Nat.zero_le _, rfl⟩ ?_ ?_
  · rintro y r δ ⟨L, s4, s5, s6, hl, er, ch, pa, hi, rfl⟩
    rw [List.length_cons] at hl er
    rw [List.range'_succ] at er
    injection er with ey er
    have ym : y < m := by omega
    have d0 : deg L 0 ≤ 2 := by
      have := row_len L 0
      unfold deg
      omega
    refine ⟨[.pot p none, .dat (natD m), .own (L.map pairD), .own (degD L m), .dat (natD y), s5, s6, .no, .no, .no], fun P k => k, ?_⟩
    have e1 : EvE (dLc (dRg1 (dCons (dVar 4) dNil)) (gNm 9) (dTst (dOp cLt (dIxO 3 (dVar 9)) (dC (.int 4)))) (dVar 9) [9]) [.pot p none, .dat (natD m), .own (L.map pairD), .own (degD L m), .dat (natD y), s5, s6, .no, .no, .no] (.lst (((List.range' 0 y).filter fun v => decide (deg L v < 4)).map natD)) :=
      ee_lc natD (fun v => decide (deg L v < 4)) natD (List.range' 0 y) (fun P k => by
        refine (ea_cons (v_at (d := natD y) (i := 4) rfl) ea_nil) _ ⟨by omega, ?_⟩
        rw [Int.toNat_natCast, show (0 : Int) = ((0 : Nat) : Int) from rfl, rg_nat]
        exact k) rfl (by rw [List.length_range']; omega) fun v hv => ⟨[.pot p none, .dat (natD m), .own (L.map pairD), .own (degD L m), .dat (natD y), s5, s6, .no, .no, .dat (natD v)], fun P k => k, rfl, ev_tst (ee_op (x := natD (deg L v)) (y := .int 4) (ixo_at rfl (v_at rfl) (by have := (List.mem_range'_1.mp hv).2; omega)) (fun P k => k) fun P k => by
        have e : decide (((deg L v : Nat) : Int) < 4) = decide (deg L v < 4) := by
          rw [decide_eq_decide]
          omega
        show P (.bl (decide (((deg L v : Nat) : Int) < 4)))
        rw [e]
        exact k), fun _ => v_at rfl⟩
    refine sq_set (i := 5) e1 ⟨_, rfl⟩ ?_
    have pick : ∀ P : D → DS → Prop, (∀ o, o < y → deg L o < 4 → P (natD o) [.pot p none, .dat (natD m), .own (L.map pairD), .own (degD L m), .dat (natD y), .dat (.lst (((List.range' 0 y).filter fun v => decide (deg L v < 4)).map natD)), s6, .no, .no, .no]) → dCallP 0 fs_law_pick (dCons (dVar 5) dNil) [.pot p none, .dat (natD m), .own (L.map pairD), .own (degD L m), .dat (natD y), .dat (.lst (((List.range' 0 y).filter fun v => decide (deg L v < 4)).map natD)), s6, .no, .no, .no] P := fun P k =>
      cp_by rfl (ds := [.lst (((List.range' 0 y).filter fun v => decide (deg L v < 4)).map natD)]) (ea_cons (v_at rfl) ea_nil) (p_law_pick (fun z => by
        have h0 : 0 ∈ (List.range' 0 y).filter fun v => decide (deg L v < 4) := List.mem_filter.mpr ⟨List.mem_range'_1.mpr ⟨Nat.le_refl _, by omega⟩, decide_eq_true (by omega)⟩
        rw [List.map_eq_nil_iff] at z
        rw [z] at h0
        cases h0) (by rw [List.length_map]; have := List.length_filter_le (fun v => decide (deg L v < 4)) (List.range' 0 y); rw [List.length_range'] at this; omega) fun d hd => by
        obtain ⟨o, ho, rfl⟩ := List.mem_map.mp hd
        obtain ⟨h1, h2⟩ := List.mem_filter.mp ho
        exact k o (by have := (List.mem_range'_1.mp h1).2; omega) (of_decide_eq_true h2))
    refine pick _ fun o ho hd => ?_
    have ol : o ≤ L.length := by omega
    have yl : y = L.length + 1 := by omega
    have chn := ch.app ol
    have dy : deg L y = 0 := ch.deg0 (by omega)
    have dn : ∀ v : Nat, deg (L ++ [((o : Int), ((L.length + 1 : Nat) : Int))]) v = deg L v + (if o = v then 1 else 0) + (if y = v then 1 else 0) := fun v => by
      rw [deg_app, yl]
      have c1 : ((o : Int) = (v : Int)) ↔ o = v := by omega
      have c2 : (((L.length + 1 : Nat) : Int) = (v : Int)) ↔ L.length + 1 = v := by omega
      simp only [c1, c2]
    -- the step itself
    show dSeq (dAppend 2 (dTup (dCons (dVar 6) (dCons (dVar 4) dNil)))) (dAsg (dTup (dCons (dC (.int 1)) (dCons (dOp iAdd (dIxO 3 (dVar 6)) (dC (.int 1))) dNil))) (gTp (gCn (gSb 3 (dVar 4)) (gCn (gSb 3 (dVar 6)) gNl)))) _ [.pot p none, .dat (natD m), .own (L.map pairD), .own (degD L m), .dat (natD y), .dat (.lst (((List.range' 0 y).filter fun v => decide (deg L v < 4)).map natD)), .dat (natD o), .no, .no, .no]
    refine sq_append (i := 2) (d := laneD o y) (ds := L.map pairD) (ee_tup (ea_cons (v_at rfl) (ea_cons (v_at rfl) ea_nil))) rfl (by rw [List.length_map]; omega) ?_
    refine (ee_tup (ea_cons (x := natD 1) (fun P k => k) (ea_cons (x := natD (deg L o + 1)) (ee_op (x := natD (deg L o)) (y := natD 1) (ixo_at (L := L) (m := m) (i := 3) rfl (v_at (i := 6) rfl) (by omega)) (fun P k => k) fun P k => k) ea_nil)) : EvE _ [.pot p none, .dat (natD m), .own (L.map pairD ++ [laneD o y]), .own (degD L m), .dat (natD y), .dat (.lst (((List.range' 0 y).filter fun v => decide (deg L v < 4)).map natD)), .dat (natD o), .no, .no, .no] (.tup [natD 1, natD (deg L o + 1)])) _ ?_
    refine gtp2 ?_
    refine gsb_at (δ := [.pot p none, .dat (natD m), .own (L.map pairD ++ [laneD o y]), .own (degD L m), .dat (natD y), .dat (.lst (((List.range' 0 y).filter fun v => decide (deg L v < 4)).map natD)), .dat (natD o), .no, .no, .no]) (d := natD 1) (i := 3) (a := dVar 4) (v := y) (ds := degD L m) rfl (v_at (i := 4) rfl) (by rw [degD_len]; omega) ?_
    refine gsb_at (δ := [.pot p none, .dat (natD m), .own (L.map pairD ++ [laneD o y]), .own ((degD L m).set y (natD 1)), .dat (natD y), .dat (.lst (((List.range' 0 y).filter fun v => decide (deg L v < 4)).map natD)), .dat (natD o), .no, .no, .no]) (d := natD (deg L o + 1)) (i := 3) (a := dVar 6) (v := o) (ds := (degD L m).set y (natD 1)) rfl (v_at (i := 6) rfl) (by rw [List.length_set, degD_len]; omega) ?_
    refine ⟨r, rfl, L ++ [((o : Int), ((L.length + 1 : Nat) : Int))], .dat (natD y), .dat (.lst (((List.range' 0 y).filter fun v => decide (deg L v < 4)).map natD)), .dat (natD o), by rw [List.length_append, List.length_singleton]; omega, by rw [List.length_append, List.length_singleton]; exact er, chn, fun x hx => ?_, fun v hv => ?_, ?_⟩
    · rcases List.mem_append.mp hx with h | h
      · exact pa x h
      · rw [List.mem_singleton.mp h]
        show (o : Int) < m
        omega
    · rw [dn]
      have := hi v hv
      by_cases c1 : o = v
      · subst c1
        rw [if_pos rfl, if_neg (by omega)]
        omega
      · rw [if_neg c1]
        by_cases c2 : y = v
        · subst c2
          rw [if_pos rfl]
          omega
        · rw [if_neg c2]
          omega
    · have e2 : ((degD L m).set y (natD 1)).set o (natD (deg L o + 1)) = degD (L ++ [((o : Int), ((L.length + 1 : Nat) : Int))]) m := by
        refine List.ext_getElem? fun u => ?_
        by_cases hu : u < m
        · rw [degD_at hu, dn, List.getElem?_set]
          by_cases c1 : o = u
          · subst c1
            rw [if_pos rfl, List.length_set, degD_len, if_pos hu, if_pos rfl, if_neg (by omega)]
          · rw [if_neg c1, if_neg c1, List.getElem?_set]
            by_cases c2 : y = u
            · subst c2
              rw [if_pos rfl, degD_len, if_pos hu, if_pos rfl, dy]
            · rw [if_neg c2, if_neg c2, degD_at hu]
              rfl
        · rw [List.getElem?_eq_none (by rw [List.length_set, List.length_set, degD_len]; omega), List.getElem?_eq_none (by rw [degD_len]; omega)]
      rw [← e2, List.map_append]
      rw [yl]
      rfl
  · rintro δ ⟨L, s4, s5, s6, hl, _, ch, pa, hi, rfl⟩
    exact lanes_two m1 m3 q hl ch pa hi
end
end K26
set_option Elab.async false
set_option linter.all false
set_option maxRecDepth 100000
set_option maxHeartbeats 400000
namespace K26
open PySem PySem.Spec PyProof.Rows L2
/-! ## the country with other numbers, who lies beside, the yards -/
def unN (d : D) : Nat := match d with
  | .int i => i.toNat
  | _ => 0
theorem perm_nat {es : List D} {l : List Nat} (h : es.Perm (l.map natD)) : ∃ ns : List Nat, ns.Perm l ∧ es = ns.map natD := by
  refine ⟨es.map unN, ?_, ?_⟩
  · have h2 := h.map unN
    rw [List.map_map] at h2
    have e : l.map (unN ∘ natD) = l := by
      refine (List.map_congr_left fun v _ => ?_).trans (List.map_id l)
      show ((v : Int)).toNat = v
      omega
    rw [e] at h2
    exact h2
  · rw [List.map_map]
    refine ((List.map_congr_left fun d hd => ?_).trans (List.map_id es)).symm
    obtain ⟨v, _, rfl⟩ := List.mem_map.mp (h.mem_iff.mp hd)
    show D.int (((v : Int)).toNat : Nat) = D.int v
    rw [Int.toNat_natCast]
def ren (ns : List Nat) (p : Int × Int) : Int × Int := (((ns.getD p.1.toNat 0 : Nat) : Int), ((ns.getD p.2.toNat 0 : Nat) : Int))
def besL (R : List (Int × Int)) (v : Int) : List Int := sortI ((R.filter fun p => p.1 == v).map (·.2) ++ (R.filter fun p => p.2 == v).map (·.1))
def ysL (R : List (Int × Int)) : List Nat := (List.range' 0 (R.length + 1)).filter fun v => decide (1 < (besL R (v : Nat)).length)
section
variable {Q : D → Prop} {R : List (Int × Int)} {v : Int}
theorem p_law_beside (hl : R.length < 1000) (q : Q (intsD (besL R v))) : fs_law_beside [psD R, .int v] Q := by
  have e1 : EvE (dLc (dItL (dVar 0)) (gTp (gCn (gNm 2) (gCn (gNm 3) gNl))) (dTst (dOp eqOp (dVar 2) (dVar 1))) (dVar 3) [2, 3]) [.dat (psD R), .dat (.int v), .no, .no] (.lst ((R.filter fun p => p.1 == v).map fun p => .int p.2)) :=
    ee_lc pairD (fun p => p.1 == v) (fun p => .int p.2) R (ei_lst (a := dVar 0) fun P k => k) rfl (by omega) fun p _ => ⟨[.dat (psD R), .dat (.int v), .dat (.int p.1), .dat (.int p.2)], fun P k => k, rfl, ev_tst (ee_op (x := .int p.1) (y := .int v) (v_at rfl) (v_at rfl) (eq_int p.1 v)), fun _ => v_at rfl⟩
  have e2 : EvE (dLc (dItL (dVar 0)) (gTp (gCn (gNm 2) (gCn (gNm 3) gNl))) (dTst (dOp eqOp (dVar 3) (dVar 1))) (dVar 2) [2, 3]) [.dat (psD R), .dat (.int v), .no, .no] (.lst ((R.filter fun p => p.2 == v).map fun p => .int p.1)) :=
    ee_lc pairD (fun p => p.2 == v) (fun p => .int p.1) R (ei_lst (a := dVar 0) fun P k => k) rfl (by omega) fun p _ => ⟨[.dat (psD R), .dat (.int v), .dat (.int p.1), .dat (.int p.2)], fun P k => k, rfl, ev_tst (ee_op (x := .int p.2) (y := .int v) (v_at rfl) (v_at rfl) (eq_int p.2 v)), fun _ => v_at rfl⟩
  have l1 := List.length_filter_le (fun p : Int × Int => p.1 == v) R
  have l2 := List.length_filter_le (fun p : Int × Int => p.2 == v) R
  have e3 : ((R.filter fun p => p.1 == v).map fun p => D.int p.2) ++ ((R.filter fun p => p.2 == v).map fun p => D.int p.1) = ((R.filter fun p => p.1 == v).map (·.2) ++ (R.filter fun p => p.2 == v).map (·.1)).map D.int := by
    rw [List.map_append, List.map_map, List.map_map]
    rfl
  have e4 : EvE (dOp catOp (dLc (dItL (dVar 0)) (gTp (gCn (gNm 2) (gCn (gNm 3) gNl))) (dTst (dOp eqOp (dVar 2) (dVar 1))) (dVar 3) [2, 3]) (dLc (dItL (dVar 0)) (gTp (gCn (gNm 2) (gCn (gNm 3) gNl))) (dTst (dOp eqOp (dVar 3) (dVar 1))) (dVar 2) [2, 3])) [.dat (psD R), .dat (.int v), .no, .no] (.lst (((R.filter fun p => p.1 == v).map (·.2) ++ (R.filter fun p => p.2 == v).map (·.1)).map D.int)) :=
    ee_op e1 e2 fun P k => by
      refine ⟨by rw [List.length_map, List.length_map]; omega, ?_⟩
      rw [e3]
      exact k
  refine st_ret (δ := [.dat (psD R), .dat (.int v), .no, .no]) (ee_cb (ea_cons e4 ea_nil) fun P k => ⟨sok_I _ (by rw [List.length_append, List.length_map, List.length_map]; omega), k⟩) ?_
  rw [sortD_I]
  exact q
theorem len_ints {l : List Int} (P : D → Prop) (k : P (.int (l.length : Nat))) : lenD [intsD l] P := by
  show P (.int ((l.map D.int).length : Nat))
  rw [List.length_map]
  exact k
theorem len_ps {l : List (Int × Int)} (P : D → Prop) (k : P (.int (l.length : Nat))) : lenD [psD l] P := by
  show P (.int ((l.map pairD).length : Nat))
  rw [List.length_map]
  exact k
theorem p_law_yards (hl : R.length < 1000) (q : Q (.lst ((ysL R).map natD))) : fs_law_yards [psD R] Q := by
  have e1 : EvE (dLc (dRg1 (dCons (dOp iAdd (dCB lenD (dCons (dVar 0) dNil)) (dC (.int 1))) dNil)) (gNm 1) (dTst (dOp cGt (dCB lenD (dCons (dCall fs_law_beside [] (dCons (dVar 0) (dCons (dVar 1) dNil))) dNil)) (dC (.int 1)))) (dVar 1) [1]) [.dat (psD R), .no] (.lst ((ysL R).map natD)) :=
    ee_lc natD (fun v => decide (1 < (besL R (v : Nat)).length)) natD (List.range' 0 (R.length + 1)) (fun P k => by
      refine (ea_cons (x := natD (R.length + 1)) (ee_op (x := .int (R.length : Nat)) (y := .int 1) (ee_cb (xs := [psD R]) (ea_cons (v_at rfl) ea_nil) len_ps) (fun P k => k) fun P k => k) ea_nil) _ ⟨by omega, ?_⟩
      rw [Int.toNat_natCast, show (0 : Int) = ((0 : Nat) : Int) from rfl, rg_nat]
      exact k) rfl (by rw [List.length_range']; omega) fun v _ => ⟨[.dat (psD R), .dat (natD v)], fun P k => k, rfl, ev_tst (ee_op (x := .int ((besL R (v : Nat)).length : Nat)) (y := .int 1) (ee_cb (xs := [intsD (besL R (v : Nat))]) (ea_cons (ee_call (ds := [psD R, natD v]) (ea_cons (v_at rfl) (ea_cons (v_at rfl) ea_nil)) fun P k => p_law_beside hl k) ea_nil) len_ints) (fun P k => k) fun P k => by
        have e : decide ((1 : Int) < ((besL R (v : Nat)).length : Nat)) = decide (1 < (besL R (v : Nat)).length) := by
          rw [decide_eq_decide]
          omega
        show P (.bl (decide ((1 : Int) < ((besL R (v : Nat)).length : Nat))))
        rw [e]
        exact k), fun _ => v_at rfl⟩
  exact st_ret (δ := [.dat (psD R), .no]) e1 q
theorem p_law_renumbered {L : List (Int × Int)} (hl : L.length < 100) (ch : Ch L) (q : ∀ ns : List Nat, ns.Perm (List.range' 0 (L.length + 1)) → Q (psD (L.map (ren ns)))) : fs_law_renumbered [psD L] Q := by
  intro p i j po
  have ea : EvA (dCons (dListRg (dOp iAdd (dCB lenD (dCons (dVar 1) dNil)) (dC (.int 1)))) dNil) [.pot p none, .dat (psD L), .no, .no, .no] [.lst ((List.range' 0 (L.length + 1)).map natD)] :=
    ea_cons (fun P k => by
      refine (ee_op (x := .int (L.length : Nat)) (y := .int 1) (z := natD (L.length + 1)) (ee_cb (xs := [psD L]) (ea_cons (v_at (i := 1) rfl) ea_nil) len_ps) (fun P k => k) fun P k => k) _ ⟨⟨by omega, by omega⟩, ?_⟩
      have e : rgD ((L.length + 1 : Nat) : Int).toNat = (List.range' 0 (L.length + 1)).map natD := by
        rw [Int.toNat_natCast]
        unfold rgD
        rw [List.range_eq_range']
        rfl
      rw [e]
      exact k) ea_nil
  refine sq_setc ?_
  refine cp_by (rest := [.dat (psD L), .no, .no, .no]) rfl ea (p_law_mixed (by rw [List.length_map, List.length_range']; omega) fun es pe => ?_)
  obtain ⟨ns, pn, rfl⟩ := perm_nat pe
  refine put_by (i := 2) (s := .dat (.lst (ns.map natD))) ⟨_, rfl⟩ ?_
  have nl : ns.length = L.length + 1 := by rw [pn.length_eq, List.length_range']
  have at_ : ∀ x : Int, 0 ≤ x → x ≤ (L.length : Nat) → atI (ns.map natD) x = some (.int ((ns.getD x.toNat 0 : Nat) : Int)) := fun x x0 x1 => by
    obtain ⟨n, rfl⟩ : ∃ n : Nat, x = n := ⟨x.toNat, by omega⟩
    refine atI_nat ?_
    rw [List.getElem?_map, List.getElem?_eq_getElem (by omega), Int.toNat_natCast, List.getD_eq_getElem?_getD, List.getElem?_eq_getElem (by omega)]
    rfl
  have e1 : EvE (dLc (dItL (dVar 1)) (gTp (gCn (gNm 3) (gCn (gNm 4) gNl))) dYes (dTup (dCons (dOp ixOp (dVar 2) (dVar 3)) (dCons (dOp ixOp (dVar 2) (dVar 4)) dNil))) [3, 4]) [.pot p none, .dat (psD L), .dat (.lst (ns.map natD)), .no, .no] (.lst (L.map fun p => pairD (ren ns p))) :=
    ee_lc1 pairD (fun p => pairD (ren ns p)) L (ei_lst (a := dVar 1) fun P k => k) rfl (by omega) fun x hx => ⟨[.pot p none, .dat (psD L), .dat (.lst (ns.map natD)), .dat (.int x.1), .dat (.int x.2)], fun P k => k, rfl, fun P k => k, fun _ => by
      obtain ⟨k, hk⟩ := List.mem_iff_getElem?.mp hx
      have kl := (List.getElem?_eq_some_iff.mp hk).1
      obtain ⟨c1, c2, c3⟩ := ch k x hk
      exact ee_tup (ea_cons (ee_op (x := .lst (ns.map natD)) (y := .int x.1) (v_at rfl) (v_at rfl) fun P k => ⟨_, at_ x.1 c2 (by omega), k⟩) (ea_cons (ee_op (x := .lst (ns.map natD)) (y := .int x.2) (v_at rfl) (v_at rfl) fun P k => ⟨_, at_ x.2 (by omega) (by omega), k⟩) ea_nil))⟩
  refine st_ret e1 ⟨⟨none, rfl, fun a b z => nomatch z⟩, ?_⟩
  have h := q ns pn
  unfold psD at h
  rw [List.map_map] at h
  exact h
end
end K26
set_option Elab.async false
set_option linter.all false
set_option maxRecDepth 100000
set_option maxHeartbeats 400000
namespace K26
open PySem PySem.Spec PyProof.Rows L2
/-! ## a book is drawn -/
theorem perm_map_inv {α β : Type} (f : α → β) : ∀ (es : List β) (l : List α), es.Perm (l.map f) → ∃ m : List α, m.Perm l ∧ es = m.map f
  | [], l, h => by
    have e : l = [] := by
      have := h.length_eq
      rw [List.length_map] at this
      exact List.eq_nil_of_length_eq_zero this.symm
    subst e
    exact ⟨[], .refl _, rfl⟩
  | d :: es, l, h => by
    obtain ⟨x, hx, ex⟩ := List.mem_map.mp (h.mem_iff.mp (List.mem_cons_self ..))
    obtain ⟨s, t, rfl⟩ := List.append_of_mem hx
    have pm : (s ++ x :: t).Perm (x :: (s ++ t)) := List.perm_middle
    have h2 := h.trans (pm.map f)
    rw [List.map_cons, ex] at h2
    obtain ⟨m, hm, em⟩ := perm_map_inv f es (s ++ t) (List.Perm.cons_inv h2)
    exact ⟨x :: m, (hm.cons x).trans pm.symm, by rw [List.map_cons, ex, em]⟩
/-- a bound as it is drawn -/
def BdOk (r : List Int) (least : Int) (b : Bd) : Prop := least ≤ b.2.2 ∧ b.2.2 ≤ 3 ∧ ∃ p ∈ pairsOf r, (b.1 = none ∧ b.2.1 = some p.2) ∨ (b.1 = some p.1 ∧ b.2.1 = none) ∨ (b.1 = some p.1 ∧ b.2.1 = some p.2)
def AltOk (r : List Int) (most : Nat) (least : Int) (a : Alt) : Prop := 1 ≤ a.1 ∧ a.1 ≤ (most : Nat) ∧ a.2.length ≤ 2 ∧ ∀ b ∈ a.2, BdOk r least b
structure BkOk (r : List Int) (most : Nat) (bk : List Alt) : Prop where
  ln : bk.length ≤ 3
  al : ∀ a ∈ bk, AltOk r most 0 a
  fs : ∃ a ∈ bk, AltOk r most 1 a
theorem BdOk.weak {r : List Int} {b : Bd} (h : BdOk r 1 b) : BdOk r 0 b := ⟨by have := h.1; omega, h.2⟩
theorem AltOk.weak {r : List Int} {m : Nat} {a : Alt} (h : AltOk r m 1 a) : AltOk r m 0 a := ⟨h.1, h.2.1, h.2.2.1, fun b hb => (h.2.2.2 b hb).weak⟩
theorem BkOk.perm {r : List Int} {m : Nat} {bk bk' : List Alt} (h : BkOk r m bk) (p : bk'.Perm bk) : BkOk r m bk' := ⟨by rw [p.length_eq]; exact h.ln, fun a ha => h.al a (p.mem_iff.mp ha), by
  obtain ⟨a, ha, h1⟩ := h.fs
  exact ⟨a, p.mem_iff.mpr ha, h1⟩⟩
theorem cp_by2 {f : DSp} {l : DTA} {δ δ1 : DS} {ds : List D} {p : Addr} {rest rest1 : DS} {P : D → DS → Prop} (hp : δ = .pot p none :: rest) (hp1 : δ1 = .pot p none :: rest1) (hl : ∀ P : List D → DS → Prop, P ds δ1 → l δ P) (h : f ds fun d => P d δ1) : dCallP 0 f l δ P := by
  subst hp
  subst hp1
  exact hl _ h
theorem draw_at {a : DTE} {δ rest : DS} {p : Addr} {n : Nat} {P : D → DS → Prop} (hp : δ = .pot p none :: rest) (ha : EvE a δ (natD n)) (h0 : 0 < n) (h1 : n < 1000000) (k : ∀ m : Nat, m < n → P (natD m) δ) : dCallP 0 fs_law_draw (dCons a dNil) δ P :=
  cp_by hp (ea_cons ha ea_nil) (p_law_draw (by omega) (by omega) fun x x0 x1 => by
    obtain ⟨m, rfl⟩ : ∃ m : Nat, x = m := ⟨x.toNat, by omega⟩
    exact k m (by omega))
theorem st_appG {S : D → DS → Prop} {i : Nat} {a : DTE} {E : DEnds} {δ : DS} (h : ∀ P : D → DS → Prop, (∀ d δ1, S d δ1 → P d δ1) → a δ P) (ho : ∃ ds0, δ[i]? = some (.own ds0)) (q : ∀ d δ1, S d δ1 → ∃ ds, δ1[i]? = some (.own ds) ∧ ds.length < 100000 ∧ E.nx (δ1.set i (.own (ds ++ [d])))) : dAppend i a E δ := by
  obtain ⟨ds0, ho⟩ := ho
  show ownS i δ fun _ => a δ fun x δ1 => ownS i δ1 fun ds => ds.length < 100000 ∧ E.nx (δ1.set i (.own (ds ++ [x])))
  unfold ownS
  rw [ho]
  refine h _ fun d δ1 hs => ?_
  obtain ⟨ds, h1, h2, h3⟩ := q d δ1 hs
  show (match δ1[i]? with | some (.own ds) => ds.length < 100000 ∧ E.nx (δ1.set i (.own (ds ++ [d]))) | _ => False)
  rw [h1]
  exact ⟨h2, h3⟩
theorem op_any {r : DR2} {a X : DTE} {l : DTA} {x : D} {δ : DS} {P : List D → DS → Prop} (h1 : EvE a δ x) (h2 : X δ fun y δ2 => r x y fun z => l δ2 fun zs δ3 => P (z :: zs) δ3) : dCons (dOp r a X) l δ P := h1 _ h2
theorem op_any2 {r : DR2} {a X : DTE} {x : D} {δ : DS} {P : D → DS → Prop} (h1 : EvE a δ x) (h2 : X δ fun y δ2 => r x y fun z => P z δ2) : dOp r a X δ P := h1 _ h2
theorem sq_par_own {i j : Nat} {A : DTE} {u : DTS} {E : DEnds} {δ : DS} (h : A δ fun d δ1 => putS i (.dat d) δ1 fun δ2 => putS j (.own []) δ2 (u E)) : dSeq (dPar i j (dDat A) (dOwnL dNil)) u E δ := h
theorem iadd_by {a b : Nat} {Q : D → Prop} (k : Q (natD (a + b))) : iAdd (natD a) (natD b) Q := k
theorem sq_for_any {lo hi : Nat} {A : DTE} {g : DTG} {b u : DTS} {E : DEnds} {δ : DS} (hA : ∀ P : D → DS → Prop, (∀ n : Nat, lo ≤ n → n < hi → P (natD n) δ) → A δ P) (hh : hi < 1000000) (k : ∀ n, lo ≤ n → n < hi → dSeq (dFor (fun δ Q => Q ((List.range' 0 n).map natD) δ) g b) u E δ) : dSeq (dFor (dRg1 (dCons A dNil)) g b) u E δ :=
  hA _ fun n h0 h1 => ⟨⟨by omega, by omega⟩, by
    rw [Int.toNat_natCast, show (0 : Int) = ((0 : Nat) : Int) from rfl, rg_nat]
    exact k n h0 h1⟩
section
variable {Q : D → Prop} {r : List Int} {most : Nat}
abbrev bkS (p : Addr) (r : List Int) (most : Nat) (fd : List Alt) (turn : D) (pl : D) (bs : List Bd) (s7 s8 s9 s10 s11 : Sl) : DS := [.pot p none, .dat (intsD r), .dat (natD most), .own (fd.map altD), .dat turn, .dat pl, .own (bs.map bdD), s7, s8, s9, s10, s11]
def ifB (c : Bool) (o : Option Int) : Option Int := match c with
  | true => none
  | false => o
theorem bound_app {p : Addr} {fd : List Alt} {turn pl : D} {bs : List Bd} {s7 : Sl} {o t : Int} {way least : Nat} {E : DEnds} (hb : bs.length < 1000) (q : ∀ k : Nat, k < 3 → E.nx (bkS p r most fd turn pl (bs ++ [(ifB ((way : Int) == 0) (some o), ifB ((way : Int) == 1) (some t), ((least + k : Nat) : Int))]) s7 (.dat (.int o)) (.dat (.int t)) (.dat (natD way)) (.dat (natD least)))) :
    dAppend 6 (dTup (dCons (dIfE (dTst (dOp eqOp (dVar 10) (dC (.int 0)))) (dC .non) (dVar 8)) (dCons (dIfE (dTst (dOp eqOp (dVar 10) (dC (.int 1)))) (dC .non) (dVar 9)) (dCons (dOp iAdd (dVar 11) (dCallP 0 fs_law_draw (dCons (dC (.int 3)) dNil))) dNil)))) E (bkS p r most fd turn pl bs s7 (.dat (.int o)) (.dat (.int t)) (.dat (natD way)) (.dat (natD least))) := by
  have e1 : EvE (dIfE (dTst (dOp eqOp (dVar 10) (dC (.int 0)))) (dC .non) (dVar 8)) (bkS p r most fd turn pl bs s7 (.dat (.int o)) (.dat (.int t)) (.dat (natD way)) (.dat (natD least))) (optD (ifB ((way : Int) == 0) (some o))) := fun P k =>
    (ev_tst (ee_op (x := natD way) (y := .int 0) (v_at (i := 10) rfl) (fun P k => k) (eq_int (way : Int) 0)) : Ev _ _ _) _ (by
      cases e : ((way : Int) == 0) with
      | true => rw [e] at k; exact k
      | false => rw [e] at k; exact k)
  have e2 : EvE (dIfE (dTst (dOp eqOp (dVar 10) (dC (.int 1)))) (dC .non) (dVar 9)) (bkS p r most fd turn pl bs s7 (.dat (.int o)) (.dat (.int t)) (.dat (natD way)) (.dat (natD least))) (optD (ifB ((way : Int) == 1) (some t))) := fun P k =>
    (ev_tst (ee_op (x := natD way) (y := .int 1) (v_at (i := 10) rfl) (fun P k => k) (eq_int (way : Int) 1)) : Ev _ _ _) _ (by
      cases e : ((way : Int) == 1) with
      | true => rw [e] at k; exact k
      | false => rw [e] at k; exact k)
  refine st_appG (S := fun d δ1 => δ1 = bkS p r most fd turn pl bs s7 (.dat (.int o)) (.dat (.int t)) (.dat (natD way)) (.dat (natD least)) ∧ ∃ k : Nat, k < 3 ∧ d = bdD (ifB ((way : Int) == 0) (some o), ifB ((way : Int) == 1) (some t), ((least + k : Nat) : Int))) (fun P hP => e1 _ (e2 _ ?_)) ⟨_, rfl⟩ ?_
  · refine op_any (x := natD least) (v_at (i := 11) rfl) ?_
    refine draw_at (n := 3) rfl (fun P k => k) (by decide) (by decide) fun m hm => ?_
    exact hP _ _ ⟨rfl, m, hm, rfl⟩
  · rintro d δ1 ⟨rfl, k, hk, rfl⟩
    refine ⟨bs.map bdD, rfl, by rw [List.length_map]; omega, ?_⟩
    have h := q k hk
    unfold bkS at h
    rw [List.map_append] at h
    exact h
theorem ifB_ok {r : List Int} {o t : Int} {way least k : Nat} {l0 : Int} (hm : (o, t) ∈ pairsOf r) (hl : l0 = (least : Nat)) (l1 : least ≤ 1) (hk : k < 3) : BdOk r l0 (ifB ((way : Int) == 0) (some o), ifB ((way : Int) == 1) (some t), ((least + k : Nat) : Int)) := by
  refine ⟨by show l0 ≤ ((least + k : Nat) : Int); omega, by show ((least + k : Nat) : Int) ≤ 3; omega, (o, t), hm, ?_⟩
  cases e0 : ((way : Int) == 0) with
  | true =>
    have e : ((way : Int) == 1) = false := by
      rw [beq_eq_false_iff_ne]
      have := eq_of_beq e0
      omega
    rw [e]
    exact .inl ⟨rfl, rfl⟩
  | false =>
    cases e1 : ((way : Int) == 1) with
    | true => exact .inr (.inl ⟨rfl, rfl⟩)
    | false => exact .inr (.inr ⟨rfl, rfl⟩)
theorem book_turn {p : Addr} {fd : List Alt} {turn places : Nat} {bs : List Bd} {s7 s8 s9 s10 s11 : Sl} {E : DEnds} (ne : pairsOf r ≠ []) (hn : r.length ≤ 10) (hb : bs.length < 1000)
    (q : ∀ (b : Bd) (s8 s9 s10 s11 : Sl), BdOk r (if turn = 0 then 1 else 0) b → E.nx (bkS p r most fd (natD turn) (natD places) (bs ++ [b]) s7 s8 s9 s10 s11)) :
    dSeq (dAsg (dCallP 0 fs_law_pick (dCons (dCall fs_law_pairs [] (dCons (dVar 1) dNil)) dNil)) (gTp (gCn (gNm 8) (gCn (gNm 9) gNl)))) (dSeq (dPar 10 11 (dDat (dCallP 0 fs_law_draw (dCons (dC (.int 3)) dNil))) (dDat (dIfE (dTst (dOp eqOp (dVar 4) (dC (.int 0)))) (dC (.int 1)) (dC (.int 0))))) (dAppend 6 (dTup (dCons (dIfE (dTst (dOp eqOp (dVar 10) (dC (.int 0)))) (dC .non) (dVar 8)) (dCons (dIfE (dTst (dOp eqOp (dVar 10) (dC (.int 1)))) (dC .non) (dVar 9)) (dCons (dOp iAdd (dVar 11) (dCallP 0 fs_law_draw (dCons (dC (.int 3)) dNil))) dNil)))))) E (bkS p r most fd (natD turn) (natD places) bs s7 s8 s9 s10 s11) := by
  have pl := pairs_len r r
  have pm : r.length * r.length ≤ 100 := Nat.le_trans (Nat.mul_le_mul hn hn) (by decide)
  have pick : ∀ P : D → DS → Prop, (∀ o t : Int, (o, t) ∈ pairsOf r → P (pairD (o, t)) (bkS p r most fd (natD turn) (natD places) bs s7 s8 s9 s10 s11)) → dCallP 0 fs_law_pick (dCons (dCall fs_law_pairs [] (dCons (dVar 1) dNil)) dNil) (bkS p r most fd (natD turn) (natD places) bs s7 s8 s9 s10 s11) P := fun P k => by
    have ea : EvA (dCons (dCall fs_law_pairs [] (dCons (dVar 1) dNil)) dNil) (bkS p r most fd (natD turn) (natD places) bs s7 s8 s9 s10 s11) [psD (pairsOf r)] := ea_cons (ee_call (ds := [intsD r]) (ea_cons (v_at (i := 1) rfl) ea_nil) fun P k => p_law_pairs hn k) ea_nil
    refine cp_by rfl ea (p_law_pick (fun z => ne (List.map_eq_nil_iff.mp z)) (by rw [List.length_map]; show (r.flatMap _).length < _; omega) fun d hd => ?_)
    obtain ⟨⟨o, t⟩, hot, rfl⟩ := List.mem_map.mp hd
    exact k o t hot
  refine pick _ fun o t hot => ?_
  refine gtp2 ?_
  refine put_by (i := 8) (s := .dat (.int o)) ⟨_, rfl⟩ ?_
  refine put_by (i := 9) (s := .dat (.int t)) ⟨_, rfl⟩ ?_
  refine (draw_at (n := 3) rfl (fun P k => k) (by decide) (by decide) fun way hw => ?_ : dCallP 0 fs_law_draw (dCons (dC (.int 3)) dNil) (bkS p r most fd (natD turn) (natD places) bs s7 (.dat (.int o)) (.dat (.int t)) s10 s11) _)
  have e1 : EvE (dIfE (dTst (dOp eqOp (dVar 4) (dC (.int 0)))) (dC (.int 1)) (dC (.int 0))) (bkS p r most fd (natD turn) (natD places) bs s7 (.dat (.int o)) (.dat (.int t)) s10 s11) (natD (if turn = 0 then 1 else 0)) := fun P k =>
    (ev_tst (ee_op (x := natD turn) (y := .int 0) (v_at (i := 4) rfl) (fun P k => k) (eq_int (turn : Int) 0)) : Ev _ _ _) _ (by
      by_cases c : turn = 0
      · rw [if_pos c] at k
        have e : ((turn : Int) == 0) = true := beq_iff_eq.mpr (by omega)
        rw [e]
        exact k
      · rw [if_neg c] at k
        have e : ((turn : Int) == 0) = false := beq_eq_false_iff_ne.mpr (by omega)
        rw [e]
        exact k)
  refine e1 _ ?_
  refine put_by (i := 10) (s := .dat (natD way)) ⟨_, rfl⟩ ?_
  refine put_by (i := 11) (s := .dat (natD (if turn = 0 then 1 else 0))) ⟨_, rfl⟩ ?_
  refine bound_app hb fun k hk => q _ _ _ _ _ (ifB_ok hot ?_ ?_ hk)
  · split <;> rfl
  · split <;> omega
theorem p_law_book (most1 : 1 ≤ most) (most4 : most ≤ 4) (ne : pairsOf r ≠ []) (hn : r.length ≤ 10) (q : ∀ bk : List Alt, BkOk r most bk → Q (bookD bk)) : fs_law_book [intsD r, natD most] Q := by
  intro p i j po
  refine sq_own (i := 3) ⟨_, rfl⟩ ?_
  refine sq_for_any (lo := 1) (hi := 4) (δ := [.pot p none, .dat (intsD r), .dat (natD most), .own [], .no, .no, .no, .no, .no, .no, .no, .no]) (fun P hP => ?_) (by decide) fun n n1 n4 => ?_
  · refine op_any2 (x := natD 1) (fun P k => k) ?_
    refine draw_at (n := 3) (p := p) (rest := [.dat (intsD r), .dat (natD most), .own [], .no, .no, .no, .no, .no, .no, .no, .no]) rfl (fun P k => k) (by decide) (by decide) fun m hm => ?_
    exact hP (1 + m) (by omega) (by omega)
  refine sq_for natD (List.range' 0 n) (fun l δ => ∃ (fd : List Alt) (s4 s5 s6 s7 s8 s9 s10 s11 : Sl), fd.length + l.length = n ∧ l = List.range' fd.length l.length ∧ (∀ a ∈ fd, AltOk r most 0 a) ∧ (0 < fd.length → ∃ a ∈ fd, AltOk r most 1 a) ∧ δ = [.pot p none, .dat (intsD r), .dat (natD most), .own (fd.map altD), s4, s5, s6, s7, s8, s9, s10, s11]) (fun P k => k) ⟨[], .no, .no, .no, .no, .no, .no, .no, .no, by rw [List.length_range']; exact Nat.zero_add n, by rw [List.length_range']; rfl, fun a h => (nomatch h), fun h => absurd h (by decide), rfl⟩ ?_ ?_
  · rintro turn l δ ⟨fd, s4, s5, s6, s7, s8, s9, s10, s11, hl, el, al, fs, rfl⟩
    rw [List.length_cons] at hl el
    rw [List.range'_succ] at el
    injection el with et el
    refine ⟨[.pot p none, .dat (intsD r), .dat (natD most), .own (fd.map altD), .dat (natD turn), s5, s6, s7, s8, s9, s10, s11], fun P k => k, ?_⟩
    refine sq_par_own ?_
    refine op_any2 (x := natD 1) (fun P k => k) ?_
    refine draw_at (n := most) (p := p) (rest := [.dat (intsD r), .dat (natD most), .own (fd.map altD), .dat (natD turn), s5, s6, s7, s8, s9, s10, s11]) rfl (v_at (i := 2) rfl) (by omega) (by omega) fun pl hp => ?_
    refine iadd_by ?_
    refine put_by (i := 5) (δ := [.pot p none, .dat (intsD r), .dat (natD most), .own (fd.map altD), .dat (natD turn), s5, s6, s7, s8, s9, s10, s11]) (s := .dat (natD (1 + pl))) ⟨_, rfl⟩ ?_
    refine put_by (i := 6) (δ := [.pot p none, .dat (intsD r), .dat (natD most), .own (fd.map altD), .dat (natD turn), .dat (natD (1 + pl)), s6, s7, s8, s9, s10, s11]) (s := .own []) ⟨_, rfl⟩ ?_
    refine sq_for_any (lo := 0) (hi := 3) (δ := bkS p r most fd (natD turn) (natD (1 + pl)) [] s7 s8 s9 s10 s11) (fun P hP => ?_) (by decide) fun n2 _ n3 => ?_
    · exact draw_at (n := 3) (p := p) (rest := [.dat (intsD r), .dat (natD most), .own (fd.map altD), .dat (natD turn), .dat (natD (1 + pl)), .own [], s7, s8, s9, s10, s11]) rfl (fun P k => k) (by decide) (by decide) fun m hm => hP m (by omega) hm
    refine sq_for natD (List.range' 0 n2) (fun l2 δ => ∃ (bs : List Bd) (s7 s8 s9 s10 s11 : Sl), bs.length + l2.length = n2 ∧ (∀ b ∈ bs, BdOk r (if turn = 0 then 1 else 0) b) ∧ δ = bkS p r most fd (natD turn) (natD (1 + pl)) bs s7 s8 s9 s10 s11) (fun P k => k) ⟨[], s7, s8, s9, s10, s11, by rw [List.length_range']; exact Nat.zero_add n2, fun b h => (nomatch h), rfl⟩ ?_ ?_
    · rintro b l2 δ ⟨bs, s7, s8, s9, s10, s11, hl2, bo, rfl⟩
      rw [List.length_cons] at hl2
      refine ⟨bkS p r most fd (natD turn) (natD (1 + pl)) bs (.dat (natD b)) s8 s9 s10 s11, fun P k => k, ?_⟩
      refine book_turn ne hn (by omega) fun b' s8 s9 s10 s11 hb' => ⟨l2, rfl, bs ++ [b'], _, s8, s9, s10, s11, by rw [List.length_append, List.length_singleton]; omega, fun x hx => ?_, rfl⟩
      rcases List.mem_append.mp hx with h | h
      · exact bo x h
      · rw [List.mem_singleton.mp h]
        exact hb'
    · rintro δ ⟨bs, s7, s8, s9, s10, s11, hl2, bo, rfl⟩
      have hl3 : bs.length = n2 := hl2
      refine st_appG (S := fun d δ1 => d = altD (((1 + pl : Nat) : Int), bs) ∧ δ1 = [.pot p none, .dat (intsD r), .dat (natD most), .own (fd.map altD), .dat (natD turn), .dat (natD (1 + pl)), .dat (.lst (bs.map bdD)), s7, s8, s9, s10, s11]) (fun P hP => hP _ _ ⟨rfl, rfl⟩) ⟨_, rfl⟩ ?_
      rintro d δ1 ⟨rfl, rfl⟩
      refine ⟨fd.map altD, rfl, by rw [List.length_map]; omega, l, rfl, fd ++ [(((1 + pl : Nat) : Int), bs)], .dat (natD turn), .dat (natD (1 + pl)), .dat (.lst (bs.map bdD)), s7, s8, s9, s10, s11, by rw [List.length_append, List.length_singleton]; omega, by rw [List.length_append, List.length_singleton]; exact el, fun a ha => ?_, fun _ => ?_, ?_⟩
      · rcases List.mem_append.mp ha with h | h
        · exact al a h
        · rw [List.mem_singleton.mp h]
          refine ⟨by show (1 : Int) ≤ ((1 + pl : Nat) : Int); omega, by show ((1 + pl : Nat) : Int) ≤ (most : Nat); omega, by show bs.length ≤ 2; omega, fun b hb => ?_⟩
          have hb2 := bo b hb
          by_cases c : turn = 0
          · rw [if_pos c] at hb2
            exact hb2.weak
          · rw [if_neg c] at hb2
            exact hb2
      · by_cases c : 0 < fd.length
        · obtain ⟨a, ha, h1⟩ := fs c
          exact ⟨a, List.mem_append_left _ ha, h1⟩
        · refine ⟨_, List.mem_append_right _ (List.mem_singleton.mpr rfl), by show (1 : Int) ≤ ((1 + pl : Nat) : Int); omega, by show ((1 + pl : Nat) : Int) ≤ (most : Nat); omega, by show bs.length ≤ 2; omega, fun b hb => ?_⟩
          have hb2 := bo b hb
          rw [if_pos (by omega)] at hb2
          exact hb2
      · rw [List.map_append]
        rfl
  · rintro δ ⟨fd, s4, s5, s6, s7, s8, s9, s10, s11, hl, _, al, fs, rfl⟩
    have hl2 : fd.length = n := hl
    refine cp_by2 (δ1 := [.pot p none, .dat (intsD r), .dat (natD most), .dat (.lst (fd.map altD)), s4, s5, s6, s7, s8, s9, s10, s11]) (ds := [.lst (fd.map altD)]) rfl rfl (fun P k => k) (p_law_mixed (by rw [List.length_map]; omega) fun es pe => ?_)
    obtain ⟨bk, pb, rfl⟩ := perm_map_inv altD es fd pe
    exact ⟨⟨none, rfl, fun a b z => nomatch z⟩, q bk ((⟨by omega, al, fs (by omega)⟩ : BkOk r most fd).perm pb)⟩
end
end K26
set_option Elab.async false
set_option linter.all false
set_option maxRecDepth 100000
set_option maxHeartbeats 400000
namespace K26
open PySem PySem.Spec PyProof.Rows L2
/-! ## the program takes a drawn book -/
section
variable {Q : D → Prop} {r : List Int} {most : Nat}
def EndOk (r : List Int) (o : Option Int) : Prop := ∀ x, o = some x → x ∈ r ∧ 0 ≤ x
theorem p_is_end_for {o : Option Int} (h : EndOk r o) (q : Q (.bl true)) : fs_is_end_for [intsD r, optD o] Q := by
  cases o with
  | none =>
    refine st_ret (δ := [.dat (intsD r), .dat .non]) (d := .bl (true || false)) (ee_or (b := true) (c := false) (fun P k => k) fun z => nomatch z) q
  | some x =>
    obtain ⟨hx, x0⟩ := h x rfl
    have e : (D.pys (r.map D.int)).any (fun z => PyData.eqv z (D.int x).py) = true := by
      have e2 := in_ints (t := x) (r := r)
      rw [List.any_eq_true.mpr ⟨x, hx, by simp⟩] at e2
      exact e2
    refine st_ret (δ := [.dat (intsD r), .dat (.int x)]) (d := .bl (false || (true && true))) (ee_or (b := false) (c := true && true) (fun P k => k) fun _ => ee_and (b := true) (c := true) (ee_call (ds := [.int x]) (ea_cons (v_at rfl) ea_nil) fun P k => p_is_count1 x0 k) fun _ => ee_op (x := .int x) (y := intsD r) (v_at rfl) (v_at rfl) fun P k => ⟨⟨(Nc.int (n := 0) _).ok, (nc_intsD r).ok⟩, by rw [e]; exact k⟩) q
theorem eqv_none_int (x : Int) : PyData.eqv .none (.int x) = false := by simp [PyData.eqv]
theorem eqv_int_none (x : Int) : PyData.eqv (.int x) .none = false := by simp [PyData.eqv]
theorem nc_opt {n : Nat} : ∀ o : Option Int, Nc n (optD o)
  | none => .non
  | some x => .int x
theorem bd_ne {b : Bd} {p : Int × Int} (h : (b.1 = none ∧ b.2.1 = some p.2) ∨ (b.1 = some p.1 ∧ b.2.1 = none) ∨ (b.1 = some p.1 ∧ b.2.1 = some p.2)) (hp : p.1 ≠ p.2) : PyData.eqv (optD b.1).py (optD b.2.1).py = false := by
  rcases h with ⟨e1, e2⟩ | ⟨e1, e2⟩ | ⟨e1, e2⟩
  · rw [e1, e2]
    exact eqv_none_int p.2
  · rw [e1, e2]
    exact eqv_int_none p.1
  · rw [e1, e2]
    show PyData.eqv (.int p.1) (.int p.2) = false
    simp [PyData.eqv]
    exact hp
theorem pairs_mem {p : Int × Int} (h : p ∈ pairsOf r) : p.1 ∈ r ∧ p.2 ∈ r ∧ p.1 ≠ p.2 := by
  obtain ⟨o, ho, hp⟩ := List.mem_flatMap.mp h
  obtain ⟨t, ht, rfl⟩ := List.mem_map.mp hp
  obtain ⟨h1, h2⟩ := List.mem_filter.mp ht
  refine ⟨ho, h1, fun z => ?_⟩
  have z2 : o = t := z
  rw [z2] at h2
  simp at h2
theorem p_is_bound_for {b : Bd} (h0 : ∀ x ∈ r, 0 ≤ x) (h : BdOk r 0 b) (q : Q (.bl true)) : fs_is_bound_for [intsD r, bdD b] Q := by
  obtain ⟨b0, b3, p, hp, hb⟩ := h
  obtain ⟨p1, p2, pn⟩ := pairs_mem hp
  have ix : ∀ {j : Nat} {z : D}, ([optD b.1, optD b.2.1, .int b.2.2] : List D)[j]? = some z → EvE (dOp ixOp (dVar 1) (dC (.int (j : Nat)))) [.dat (intsD r), .dat (bdD b)] z := fun {j z} h2 => ee_op (x := bdD b) (v_at rfl) (fun P k => k) fun P k => ⟨_, atI_nat h2, k⟩
  have eo : EndOk r b.1 := fun x e => by
    rcases hb with ⟨e1, e2⟩ | ⟨e1, e2⟩ | ⟨e1, e2⟩ <;> rw [e1] at e <;> cases e
    · exact ⟨p1, h0 _ p1⟩
    · exact ⟨p1, h0 _ p1⟩
  have et : EndOk r b.2.1 := fun x e => by
    rcases hb with ⟨e1, e2⟩ | ⟨e1, e2⟩ | ⟨e1, e2⟩ <;> rw [e2] at e <;> cases e
    · exact ⟨p2, h0 _ p2⟩
    · exact ⟨p2, h0 _ p2⟩
  refine sq_if (δ := [.dat (intsD r), .dat (bdD b)]) (b := false) (ev_or (b := false) (c := false) (ev_not (b := true) (ev_tst fun P k => k)) fun _ => ev_or (b := false) (c := false) (ev_tst (ee_op (x := .int 3) (y := .int 3) (fun P k => k) (fun P k => k) fun P k => ne_int 3 3 P k)) fun _ => ev_or (b := false) (c := false) (ev_not (b := true) (ev_tst (ee_call (ds := [.int b.2.2]) (ea_cons (ix (j := 2) rfl) ea_nil) fun P k => p_is_count1 b0 k))) fun _ => ev_tst (ee_op (x := .int b.2.2) (y := .int 6) (ix (j := 2) rfl) (fun P k => k) fun P k => by
    show P (.bl (decide ((6 : Int) < b.2.2)))
    rw [decide_eq_false (by omega)]
    exact k)) (fun z => nomatch z) fun _ => sq_next ?_
  refine st_ret (δ := [.dat (intsD r), .dat (bdD b)]) (d := .bl (true && (true && true))) (ee_and (b := true) (c := true && true) (ee_call (ds := [intsD r, optD b.1]) (ea_cons (v_at rfl) (ea_cons (ix (j := 0) rfl) ea_nil)) fun P k => p_is_end_for eo k) fun _ => ee_and (b := true) (c := true) (ee_call (ds := [intsD r, optD b.2.1]) (ea_cons (v_at rfl) (ea_cons (ix (j := 1) rfl) ea_nil)) fun P k => p_is_end_for et k) fun _ => ee_op (x := optD b.1) (y := optD b.2.1) (ix (j := 0) rfl) (ix (j := 1) rfl) fun P k => ⟨⟨(nc_opt (n := 0) _).ok, (nc_opt (n := 0) _).ok⟩, by
    rw [bd_ne hb pn]
    exact k⟩) q
theorem chain_le {a b c : DTE} {δ : DS} {x y z : Int} (h1 : EvE a δ (.int x)) (h2 : EvE b δ (.int y)) (h3 : EvE c δ (.int z)) (hxy : x ≤ y) (hyz : y ≤ z) : EvE (dChain cLe cLe a b c) δ (.bl true) := fun P k => h1 _ (h2 _ (by
  show (match D.bl (decide (x ≤ y)) with | .bl true => c δ fun w δ3 => cLe (.int y) w fun z => P z δ3 | .bl false => P (.bl false) δ | _ => False)
  rw [decide_eq_true hxy]
  refine h3 _ ?_
  show P (.bl (decide (y ≤ z))) δ
  rw [decide_eq_true hyz]
  exact k))
theorem all_true {α : Type} (l : List α) (P : D → Prop) (k : P (.bl true)) : allD [.lst (l.map fun _ => .bl true)] P := ⟨l.map fun _ => true, bl_rep true l, by
  have e : (l.map fun _ => true).all id = true := by rw [List.all_map]; exact List.all_eq_true.mpr fun _ _ => rfl
  rw [e]
  exact k⟩
theorem len_lst {α : Type} {f : α → D} {l : List α} (P : D → Prop) (k : P (.int (l.length : Nat))) : lenD [.lst (l.map f)] P := by
  show P (.int ((l.map f).length : Nat))
  rw [List.length_map]
  exact k
theorem p_alternative_in {a : Alt} (h0 : ∀ x ∈ r, 0 ≤ x) (m4 : most ≤ 4) (h : AltOk r most 0 a) (q : Q (altD a)) : fs_alternative_in [intsD r, altD a] Q := by
  obtain ⟨a1, a2, a3, a4⟩ := h
  have ix : ∀ {j : Nat} {z : D} {s2 s3 : Sl}, ([.int a.1, .lst (a.2.map bdD)] : List D)[j]? = some z → EvE (dOp ixOp (dVar 1) (dC (.int (j : Nat)))) [.dat (intsD r), .dat (altD a), s2, s3] z := fun {j z s2 s3} h2 => ee_op (x := altD a) (v_at rfl) (fun P k => k) fun P k => ⟨_, atI_nat h2, k⟩
  refine sq_if (δ := [.dat (intsD r), .dat (altD a), .no, .no]) (b := false) (ev_or (b := false) (c := false) (ev_not (b := true) (ev_tst fun P k => k)) fun _ => ev_or (b := false) (c := false) (ev_tst (ee_op (x := .int 2) (y := .int 2) (fun P k => k) (fun P k => k) fun P k => ne_int 2 2 P k)) fun _ => ev_or (b := false) (c := false) (ev_not (b := true) (ev_tst (ee_call (ds := [.int a.1]) (ea_cons (ix (j := 0) rfl) ea_nil) fun P k => p_is_count1 (by omega) k))) fun _ => ev_not (b := true) (ev_tst (chain_le (x := 1) (y := a.1) (z := 6) (fun P k => k) (ix (j := 0) rfl) (fun P k => k) a1 (by omega)))) (fun z => nomatch z) fun _ => sq_next ?_
  refine sq_set (i := 2) (d := .lst (a.2.map bdD)) (ix (j := 1) rfl) ⟨_, rfl⟩ ?_
  have e1 : EvE (dLc (dItL (dVar 2)) (gNm 3) dYes (dCall fs_is_bound_for [] (dCons (dVar 0) (dCons (dVar 3) dNil))) [3]) [.dat (intsD r), .dat (altD a), .dat (.lst (a.2.map bdD)), .no] (.lst (a.2.map fun _ => .bl true)) :=
    ee_lc1 bdD (fun _ => .bl true) a.2 (ei_lst (v_at rfl)) rfl (by omega) fun b hb => ⟨[.dat (intsD r), .dat (altD a), .dat (.lst (a.2.map bdD)), .dat (bdD b)], fun P k => k, rfl, fun P k => k, fun _ => ee_call (ds := [intsD r, bdD b]) (ea_cons (v_at rfl) (ea_cons (v_at rfl) ea_nil)) fun P k => p_is_bound_for h0 (a4 b hb) k⟩
  refine sq_if (δ := [.dat (intsD r), .dat (altD a), .dat (.lst (a.2.map bdD)), .no]) (b := false) (ev_or (b := false) (c := false) (ev_not (b := true) (ev_tst (ee_call (ds := [.lst (a.2.map bdD)]) (ea_cons (v_at rfl) ea_nil) fun P k => p_is_list k))) fun _ => ev_or (b := false) (c := false) (ev_tst (ee_op (x := .int (a.2.length : Nat)) (y := .int 6) (ee_cb (xs := [.lst (a.2.map bdD)]) (ea_cons (v_at rfl) ea_nil) len_lst) (fun P k => k) fun P k => by
    show P (.bl (decide ((6 : Int) < (a.2.length : Nat))))
    rw [decide_eq_false (by omega)]
    exact k)) fun _ => ev_not (b := true) (ev_tst (ee_cb (xs := [.lst (a.2.map fun _ => .bl true)]) (ea_cons e1 ea_nil) (all_true a.2)))) (fun z => nomatch z) fun _ => sq_next ?_
  exact st_ret (δ := [.dat (intsD r), .dat (altD a), .dat (.lst (a.2.map bdD)), .no]) (d := altD a) (ee_tup (ea_cons (ix (j := 0) rfl) (ea_cons (ee_cb (xs := [.lst (a.2.map bdD)]) (ea_cons (v_at rfl) ea_nil) fun P k => k) ea_nil))) q
theorem nc_bd (b : Bd) : Nc 1 (bdD b) := .tup fun d hd => by
  simp only [List.mem_cons, List.not_mem_nil, or_false] at hd
  rcases hd with rfl | rfl | rfl
  · exact nc_opt _
  · exact nc_opt _
  · exact .int _
theorem nc_alt (a : Alt) : Nc 3 (altD a) := .tup fun d hd => by
  simp only [List.mem_cons, List.not_mem_nil, or_false] at hd
  rcases hd with rfl | rfl
  · exact .int _
  · exact .lst (mem_map_all nc_bd)
theorem nc_book (bk : List Alt) : Nc 4 (bookD bk) := .lst (mem_map_all nc_alt)
theorem book_nonon (bk : List Alt) : ((D.pys (bk.map altD)).any fun z => PyData.eqv z D.non.py) = false := by
  rw [pys_map, List.map_map, List.any_map]
  refine List.any_eq_false.mpr fun a _ => ?_
  show ¬ PyData.eqv (altD a).py .none = true
  show ¬ PyData.eqv (.tuple _) .none = true
  simp [PyData.eqv]
theorem BkOk.bs {bk : List Alt} (h : BkOk r most bk) : BookS bk := ⟨by have := h.ln; omega, fun a ha => by have := (h.al a ha).2.2.1; omega⟩
theorem BkOk.cap {bk : List Alt} (h : BkOk r most bk) {l : List Row} (s : stands bk l = true) : total l ≤ (most : Nat) := by
  obtain ⟨a, ha, h1⟩ := List.any_eq_true.mp s
  unfold okA at h1
  rw [Bool.and_eq_true, decide_eq_true_eq] at h1
  have := (h.al a ha).2.1
  unfold total
  omega
theorem one_le (row : Row) (h : row.2.2 = 1) (o t : Option Int) : manyR [row] o t ≤ 1 := by
  rw [many_cons, many_nil, h]
  split <;> omega
theorem BkOk.one {bk : List Alt} (h : BkOk r most bk) (o t : Int) : stands bk [(o, t, 1)] = true := by
  obtain ⟨a, ha, h1, _, _, h2⟩ := h.fs
  refine List.any_eq_true.mpr ⟨a, ha, ?_⟩
  unfold okA
  rw [Bool.and_eq_true, decide_eq_true_eq]
  refine ⟨by have := one_le (o, t, 1) rfl none none; omega, List.all_eq_true.mpr fun b hb => ?_⟩
  unfold okB
  rw [decide_eq_true_eq]
  have := one_le (o, t, 1) rfl b.1 b.2.1
  have := (h2 b hb).1
  omega
end
end K26
set_option Elab.async false
set_option linter.all false
set_option maxRecDepth 100000
set_option maxHeartbeats 400000
namespace K26
open PySem PySem.Spec PyProof.Rows L2
section
variable {Q : D → Prop} {r : List Int} {most : Nat} {c0 aw : D} {T : List (List Int)} {v : Nat}
theorem p_book_in {bk : List Alt} (h : T[v]? = some r) (hn : r.length ≤ 10) (h0 : ∀ x ∈ r, 0 ≤ x) (m4 : most ≤ 4) (bo : BkOk r most bk) (q : Q (bookD bk)) : fs_book_in [cD c0 T aw, natD v, bookD bk] Q := by
  have bl := bo.ln
  have b1 : 1 ≤ bk.length := by
    obtain ⟨a, ha, _⟩ := bo.fs
    exact List.length_pos_of_mem ha
  have pl := pairs_len r r
  have pm : r.length * r.length ≤ 100 := Nat.le_trans (Nat.mul_le_mul hn hn) (by decide)
  refine sq_if (δ := [.dat (cD c0 T aw), .dat (natD v), .dat (bookD bk), .no, .no, .no, .no, .no, .no]) (b := false) (ev_or (b := false) (c := false) (ev_not (b := true) (ev_tst (ee_call (ds := [bookD bk]) (ea_cons (v_at rfl) ea_nil) fun P k => p_is_list k))) fun _ => ev_not (b := true) (ev_tst (chain_le (x := 1) (y := (bk.length : Nat)) (z := 4) (fun P k => k) (ee_cb (xs := [bookD bk]) (ea_cons (v_at rfl) ea_nil) len_lst) (fun P k => k) (by omega) (by omega)))) (fun z => nomatch z) fun _ => sq_next ?_
  refine sq_set (i := 3) (d := intsD r) (ee_call (ds := [cD c0 T aw, natD v]) (ea_cons (v_at rfl) (ea_cons (v_at rfl) ea_nil)) fun P k => p_beside h k) ⟨_, rfl⟩ ?_
  have e1 : EvE (dLc (dItL (dVar 2)) (gNm 6) dYes (dCall fs_alternative_in [] (dCons (dVar 3) (dCons (dVar 6) dNil))) [6]) [.dat (cD c0 T aw), .dat (natD v), .dat (bookD bk), .dat (intsD r), .no, .no, .no, .no, .no] (bookD bk) :=
    ee_lc1 altD altD bk (ei_lst (v_at rfl)) rfl (by omega) fun a ha => ⟨[.dat (cD c0 T aw), .dat (natD v), .dat (bookD bk), .dat (intsD r), .no, .no, .dat (altD a), .no, .no], fun P k => k, rfl, fun P k => k, fun _ => ee_call (ds := [intsD r, altD a]) (ea_cons (v_at rfl) (ea_cons (v_at rfl) ea_nil)) fun P k => p_alternative_in h0 m4 (bo.al a ha) k⟩
  refine sq_set (i := 4) (d := bookD bk) e1 ⟨_, rfl⟩ ?_
  refine sq_if (δ := [.dat (cD c0 T aw), .dat (natD v), .dat (bookD bk), .dat (intsD r), .dat (bookD bk), .no, .no, .no, .no]) (b := false) (ev_tst (ee_op (x := .non) (y := bookD bk) (fun P k => k) (v_at rfl) fun P k => ⟨⟨(Nc.non (n := 0)).ok, (nc_book bk).ok⟩, by rw [book_nonon]; exact k⟩)) (fun z => nomatch z) fun _ => sq_next ?_
  have e2 : EvE (dLc (dItL (dCall fs_pairs_at [] (dCons (dVar 0) (dCons (dVar 1) dNil)))) (gTp (gCn (gNm 7) (gCn (gNm 8) gNl))) dYes (dCall fs_stands_by [] (dCons (dVar 4) (dCons (dLst (dCons (dTup (dCons (dVar 7) (dCons (dVar 8) (dCons (dC (.int 1)) dNil)))) dNil)) dNil))) [7, 8]) [.dat (cD c0 T aw), .dat (natD v), .dat (bookD bk), .dat (intsD r), .dat (bookD bk), .no, .no, .no, .no] (.lst ((pairsOf r).map fun _ => .bl true)) :=
    ee_lc1 pairD (fun _ => .bl true) (pairsOf r) (ei_lst (ee_call (ds := [cD c0 T aw, natD v]) (ea_cons (v_at rfl) (ea_cons (v_at rfl) ea_nil)) fun P k => p_pairs_at h hn k)) rfl (by show (r.flatMap _).length < _; omega) fun p hp => ⟨[.dat (cD c0 T aw), .dat (natD v), .dat (bookD bk), .dat (intsD r), .dat (bookD bk), .no, .no, .dat (.int p.1), .dat (.int p.2)], fun P k => k, rfl, fun P k => k, fun _ => ee_call (ds := [bookD bk, loadL [(p.1, p.2, 1)]]) (ea_cons (v_at rfl) (ea_cons (fun P k => k) ea_nil)) fun P k => p_stands_by (l := [(p.1, p.2, 1)]) (.inl rfl) (show 1 < 100000 by decide) bo.bs (by rw [bo.one]; exact k)⟩
  refine sq_set (i := 5) (d := .lst ((pairsOf r).map fun _ => .bl true)) e2 ⟨_, rfl⟩ ?_
  refine st_ret (δ := [.dat (cD c0 T aw), .dat (natD v), .dat (bookD bk), .dat (intsD r), .dat (bookD bk), .dat (.lst ((pairsOf r).map fun _ => .bl true)), .no, .no, .no]) (d := bookD bk) (fun P k => ?_) q
  exact (ev_tst (ee_cb (xs := [.lst ((pairsOf r).map fun _ => .bl true)]) (ea_cons (v_at rfl) ea_nil) (all_true (pairsOf r))) : Ev _ _ true) _ k
theorem p_want_book {bk : List Alt} (h : T[v]? = some r) (hn : r.length ≤ 10) (h0 : ∀ x ∈ r, 0 ≤ x) (m4 : most ≤ 4) (bo : BkOk r most bk) (q : Q (bookD bk)) : fs_want_book [cD c0 T aw, natD v, bookD bk] Q := by
  refine sq_set (δ := [.dat (cD c0 T aw), .dat (natD v), .dat (bookD bk), .no]) (i := 3) (d := bookD bk) (ee_call (ds := [cD c0 T aw, natD v, bookD bk]) (ea_cons (v_at rfl) (ea_cons (v_at rfl) (ea_cons (v_at rfl) ea_nil))) fun P k => p_book_in h hn h0 m4 bo k) ⟨_, rfl⟩ ?_
  refine sq_if (δ := [.dat (cD c0 T aw), .dat (natD v), .dat (bookD bk), .dat (bookD bk)]) (b := false) (ev_tst fun P k => k) (fun z => nomatch z) fun _ => sq_next ?_
  exact st_ret (δ := [.dat (cD c0 T aw), .dat (natD v), .dat (bookD bk), .dat (bookD bk)]) (d := bookD bk) (v_at rfl) q
end
end K26
set_option Elab.async false
set_option linter.all false
set_option maxRecDepth 100000
set_option maxHeartbeats 400000
namespace K26
open PySem PySem.Spec PyProof.Rows L2
section
variable {r : List Int} {most : Nat} {c0 aw : D} {T : List (List Int)} {v : Nat}
def vbD (p : Nat × List Alt) : D := .tup [natD p.1, bookD p.2]
theorem st_fldS {k i n : Nat} {a : DTE} {E : DEnds} {δ : DS} {d : D} {p : Addr} {ds : List D} (h : EvE a δ d) (hi : δ[i]? = some (.ins p k ds)) (hl : ds.length = n) (q : E.nx (δ.set i (.ins p k (ds ++ [d])))) : dFldS k i n a E δ := h _ (by
  show (match δ[i]? with | some (.ins p k' ds) => (k' = k ∧ ds.length = n) ∧ E.nx (δ.set i (.ins p k' (ds ++ [d]))) | _ => False)
  rw [hi]
  exact ⟨⟨rfl, hl⟩, q⟩)
theorem sq_fldS {k i n : Nat} {a : DTE} {u : DTS} {E : DEnds} {δ : DS} {d : D} {p : Addr} {ds : List D} (h : EvE a δ d) (hi : δ[i]? = some (.ins p k ds)) (hl : ds.length = n) (q : u E (δ.set i (.ins p k (ds ++ [d])))) : dSeq (dFldS k i n a) u E δ := st_fldS (E := { nx := u E, rt := E.rt, bk := E.bk, ct := E.ct }) h hi hl q
theorem p_Web_init {Q : List D → Prop} {bks : List (List Alt)} (tl : T.length < 1000) (hl : bks.length = (ysOf T).length) (hb : ∀ p ∈ (ysOf T).zip bks, ∃ (r : List Int) (most : Nat), T[p.1]? = some r ∧ r.length ≤ 10 ∧ (∀ x ∈ r, 0 ≤ x) ∧ most ≤ 4 ∧ BkOk r most p.2) (q : Q [cD c0 T aw, .lst (bks.map bookD)]) : fs_Web_init [cD c0 T aw, .lst (bks.map bookD)] Q := by
  intro p
  have yl : (ysOf T).length ≤ T.length := by
    unfold ysOf
    rw [List.length_map]
    have := List.length_filter_le (fun p : List Int × Nat => decide (1 < p.1.length)) T.zipIdx
    rw [List.length_zipIdx] at this
    exact this
  refine sq_set (δ := [.ins p 1 [], .dat (cD c0 T aw), .dat (.lst (bks.map bookD)), .no, .no, .no, .no]) (i := 3) (d := cD c0 T aw) (ee_call (ds := [cD c0 T aw]) (ea_cons (v_at (i := 1) rfl) ea_nil) fun P k => p_want_country k) ⟨_, rfl⟩ ?_
  refine sq_set (δ := [.ins p 1 [], .dat (cD c0 T aw), .dat (.lst (bks.map bookD)), .dat (cD c0 T aw), .no, .no, .no]) (i := 4) (d := .lst ((ysOf T).map natD)) (ee_call (ds := [cD c0 T aw]) (ea_cons (v_at (i := 3) rfl) ea_nil) fun P k => p_yards_in tl k) ⟨_, rfl⟩ ?_
  refine sq_if (δ := [.ins p 1 [], .dat (cD c0 T aw), .dat (.lst (bks.map bookD)), .dat (cD c0 T aw), .dat (.lst ((ysOf T).map natD)), .no, .no]) (b := false) (ev_or (b := false) (c := false) (ev_not (b := true) (ev_tst (ee_call (ds := [.lst (bks.map bookD)]) (ea_cons (v_at (i := 2) rfl) ea_nil) fun P k => p_is_list k))) fun _ => ev_tst (ee_op (x := .int (bks.length : Nat)) (y := .int ((ysOf T).length : Nat)) (ee_cb (xs := [.lst (bks.map bookD)]) (ea_cons (v_at (i := 2) rfl) ea_nil) len_lst) (ee_cb (xs := [.lst ((ysOf T).map natD)]) (ea_cons (v_at (i := 4) rfl) ea_nil) len_lst) fun P k => ne_int _ _ P (by rw [hl, beq_self_eq_true]; exact k))) (fun z => nomatch z) fun _ => sq_next ?_
  refine sq_fldS (i := 0) (d := cD c0 T aw) (v_at (i := 3) rfl) rfl rfl ?_
  have e2 : ((ysOf T).zip bks).map (fun p => bookD p.2) = bks.map bookD := by
    have e : ((ysOf T).zip bks).map Prod.snd = bks := List.map_snd_zip (by omega)
    conv => rhs; rw [← e]
    rw [List.map_map]
    rfl
  have e1 : EvE (dLc (dZip (dCons (dVar 4) (dCons (dVar 2) dNil))) (gTp (gCn (gNm 5) (gCn (gNm 6) gNl))) dYes (dCall fs_want_book [] (dCons (dVar 3) (dCons (dVar 5) (dCons (dVar 6) dNil)))) [5, 6]) [.ins p 1 [cD c0 T aw], .dat (cD c0 T aw), .dat (.lst (bks.map bookD)), .dat (cD c0 T aw), .dat (.lst ((ysOf T).map natD)), .no, .no] (.lst (((ysOf T).zip bks).map fun p => bookD p.2)) := by
    refine ee_lc1 vbD (fun p => bookD p.2) ((ysOf T).zip bks) (fun P k => (ea_cons (v_at (i := 4) rfl) (ea_cons (v_at (i := 2) rfl) ea_nil)) _ ?_) rfl (by rw [List.length_zip]; omega) fun x hx => ?_
    · have e : zipD ((ysOf T).map natD) (bks.map bookD) = ((ysOf T).zip bks).map vbD := by
        unfold zipD
        rw [List.zip_map, List.map_map]
        rfl
      show P (zipD ((ysOf T).map natD) (bks.map bookD)) _
      rw [e]
      exact k
    · obtain ⟨r, most, h1, h2, h3, h4, h5⟩ := hb x hx
      exact ⟨[.ins p 1 [cD c0 T aw], .dat (cD c0 T aw), .dat (.lst (bks.map bookD)), .dat (cD c0 T aw), .dat (.lst ((ysOf T).map natD)), .dat (natD x.1), .dat (bookD x.2)], fun P k => k, rfl, fun P k => k, fun _ => ee_call (ds := [cD c0 T aw, natD x.1, bookD x.2]) (ea_cons (v_at (i := 3) rfl) (ea_cons (v_at (i := 5) rfl) (ea_cons (v_at (i := 6) rfl) ea_nil))) fun P k => p_want_book h1 h2 h3 h4 h5 k⟩
  rw [e2] at e1
  exact st_fldS (i := 0) (d := .lst (bks.map bookD)) (δ := [.ins p 1 [cD c0 T aw], .dat (cD c0 T aw), .dat (.lst (bks.map bookD)), .dat (cD c0 T aw), .dat (.lst ((ysOf T).map natD)), .no, .no]) e1 rfl rfl ⟨_, rfl, rfl, q⟩
end
end K26
set_option Elab.async false
set_option linter.all false
set_option maxRecDepth 100000
set_option maxHeartbeats 400000
namespace K26
open PySem PySem.Spec PyProof.Rows L2
/-! ## the country is made -/
section
variable {Q : D → Prop}
def nrmP (p : Int × Int) : Int × Int := (if p.2 < p.1 then p.2 else p.1, if p.2 > p.1 then p.2 else p.1)
theorem p_lane_in {p : Int × Int} (h1 : 0 ≤ p.1) (h2 : 0 ≤ p.2) (h3 : p.1 ≠ p.2) (q : Q (pairD (nrmP p))) : fs_lane_in [pairD p] Q := by
  have i0 : EvE (dOp ixOp (dVar 0) (dC (.int 0))) [.dat (pairD p), .no] (.int p.1) := fst_at (v_at rfl)
  have i1 : EvE (dOp ixOp (dVar 0) (dC (.int 1))) [.dat (pairD p), .no] (.int p.2) := snd_at (v_at rfl)
  have e1 : EvE (dLc (dItT (dVar 0)) (gNm 1) dYes (dCall fs_is_count [] (dCons (dVar 1) dNil)) [1]) [.dat (pairD p), .no] (.lst [.bl true, .bl true]) :=
    fun P k => ⟨rfl, (show 2 < 100000 by decide), p_is_count1 h1 ⟨rfl, p_is_count1 h2 ⟨rfl, k⟩⟩⟩
  refine sq_if (δ := [.dat (pairD p), .no]) (b := false) (ev_or (b := false) (c := false) (ev_not (b := true) (ev_tst (ee_call (ds := [pairD p]) (ea_cons (v_at rfl) ea_nil) fun P k => p_is_listT k))) fun _ => ev_or (b := false) (c := false) (ev_tst (ee_op (x := .int 2) (y := .int 2) (fun P k => k) (fun P k => k) fun P k => ne_int 2 2 P k)) fun _ => ev_or (b := false) (c := false) (ev_not (b := true) (ev_tst (ee_cb (xs := [.lst [.bl true, .bl true]]) (ea_cons e1 ea_nil) fun P k => ⟨[true, true], rfl, k⟩))) fun _ => ev_tst (ee_op i0 i1 fun P k => eq_int p.1 p.2 P (by rw [beq_eq_false_iff_ne.mpr h3]; exact k))) (fun z => nomatch z) fun _ => sq_next ?_
  exact st_ret (δ := [.dat (pairD p), .no]) (d := pairD (nrmP p)) (ee_tup (ea_cons (ee_cb (xs := [.int p.1, .int p.2]) (ea_cons i0 (ea_cons i1 ea_nil)) fun P k => k) (ea_cons (ee_cb (xs := [.int p.1, .int p.2]) (ea_cons i0 (ea_cons i1 ea_nil)) fun P k => k) ea_nil))) q
end
end K26
set_option Elab.async false
set_option linter.all false
set_option maxRecDepth 100000
set_option maxHeartbeats 400000
namespace K26
open PySem PySem.Spec PyProof.Rows L2
section
variable {Q : D → Prop} {T : List (List Int)}
theorem sq_asgG {a : DTE} {g : DTG} {u : DTS} {E : DEnds} {δ : DS} {d : D} (h : EvE a δ d) (q : g d δ (u E)) : dSeq (dAsg a g) u E δ := h _ q
theorem ixo_gen {i : Nat} {δ : DS} {a : DTE} {ds : List D} {d : D} {v : Nat} (h : δ[i]? = some (.own ds)) (ha : EvE a δ (natD v)) (hd : ds[v]? = some d) : EvE (dIxO i a) δ d := fun P k => by
  show (match δ[i]? with | some (.own _) => a δ fun x δ1 => ownS i δ1 fun ds => (match x with | .int j => ∃ d, atI ds j = some d ∧ P d δ1 | _ => False) | _ => False)
  rw [h]
  refine ha _ ?_
  show (match δ[i]? with | some (.own ds) => (match natD v with | .int j => ∃ d, atI ds j = some d ∧ P d δ | _ => False) | _ => False)
  rw [h]
  exact ⟨d, atI_nat hd, k⟩
def RowsIn (T : List (List Int)) : Prop := ∀ row ∈ T, ∀ x ∈ row, 0 ≤ x ∧ x < (T.length : Nat)
theorem cnt_set {as : List (Option Int)} {v : Nat} {u : Int} (h : as[v]? = some none) : (as.set v (some u)).count none + 1 = as.count none := by
  have hv := (List.getElem?_eq_some_iff.mp h).1
  have hg := (List.getElem?_eq_some_iff.mp h).2
  rw [List.count_set hv, hg]
  have : 0 < as.count none := List.count_pos_iff.mpr (List.mem_of_getElem? h)
  simp
  omega
theorem sq_pop_dat {i k : Nat} {u : DTS} {E : DEnds} {δ : DS} {ds : List D} {d : D} (h : δ[i]? = some (.own (ds ++ [d]))) (hk : ∃ s, (δ.set i (.own ds))[k]? = some s) (q : u E ((δ.set i (.own ds)).set k (.dat d))) : dSeq (dSet k (dDat (dPop i))) u E δ := by
  show ownS i δ fun ds => ∃ d, ds[ds.length - 1]? = some d ∧ putS k (.dat d) (δ.set i (.own ds.dropLast)) (u E)
  unfold ownS
  rw [h]
  refine ⟨d, by simp, ?_⟩
  rw [List.dropLast_concat]
  exact put_by hk q
abbrev ahS (T : List (List Int)) (v : Nat) (as : List (Option Int)) (ws : List Nat) (s4 s5 : Sl) : DS := [.dat (.lst (T.map intsD)), .dat (natD v), .own (as.map optD), .own (ws.map natD), s4, s5]
theorem p_ahead_of {v : Nat} (tl : T.length < 1000) (ri : RowsIn T) (hv : v < T.length) (q : ∀ as : List (Option Int), Q (.lst (as.map optD))) : fs_ahead_of [.lst (T.map intsD), natD v] Q := by
  have start : ∀ E : DEnds, ∀ u : DTS, u E (ahS T v (List.replicate T.length none) [v] .no .no) → dSeq (dPar 2 3 (dOwnR (dCons (dC .non) dNil) (dCB lenD (dCons (dVar 0) dNil))) (dOwnL (dCons (dVar 1) dNil))) u E [.dat (.lst (T.map intsD)), .dat (natD v), .no, .no, .no, .no] := fun E u k => by
    refine (⟨⟨by omega, by rw [List.length_map]; omega, rfl⟩, ?_⟩ : (0 ≤ ((T.map intsD).length : Int) ∧ ((T.map intsD).length : Int) < 1000 ∧ [D.non].length = 1) ∧ u E [.dat (.lst (T.map intsD)), .dat (natD v), .own (List.replicate ((T.map intsD).length : Int).toNat [D.non]).flatten, .own [natD v], .no, .no])
    have e : (List.replicate ((T.map intsD).length : Int).toNat [D.non]).flatten = (List.replicate T.length (none : Option Int)).map optD := by
      rw [Int.toNat_natCast, List.length_map, List.map_replicate]
      rw [List.flatten_replicate_singleton]
      rfl
    rw [e]
    exact k
  refine start _ _ ?_
  refine sq_asgG (d := natD v) (v_at (i := 1) rfl) ?_
  refine gsb_at (δ := ahS T v (List.replicate T.length none) [v] .no .no) (d := natD v) (i := 2) (a := dVar 1) (v := v) rfl (v_at (i := 1) rfl) (by rw [List.length_map, List.length_replicate]; exact hv) ?_
  have e0 : ((List.replicate T.length (none : Option Int)).map optD).set v (natD v) = ((List.replicate T.length (none : Option Int)).set v (some (v : Int))).map optD := by
    rw [List.map_set]
    rfl
  rw [e0]
  refine sq_while (fun m δ => ∃ (as : List (Option Int)) (ws : List Nat) (s4 s5 : Sl), m = 2 * as.count none + ws.length ∧ as.length = T.length ∧ (∀ w ∈ ws, w < T.length) ∧ ws.length < 90000 - 2 * as.count none ∧ δ = ahS T v as ws s4 s5) ⟨_, _, [v], .no, .no, rfl, by rw [List.length_set, List.length_replicate], fun w hw => by rw [List.mem_singleton.mp hw]; exact hv, by have := List.count_le_length (a := (none : Option Int)) (l := (List.replicate T.length (none : Option Int)).set v (some (v : Int))); rw [List.length_set, List.length_replicate] at this; show 1 < _; omega, rfl⟩ ?_
  rintro m δ ⟨as, ws, s4, s5, em, la, hw, hb, rfl⟩
  refine ⟨!(ws.map natD).isEmpty, ev_nilO (n := 1) (i := 3) rfl (.lst (mem_map_all fun x => .int _)), fun e => ?_, fun e => ?_⟩
  · obtain ⟨ws', w, rfl⟩ : ∃ ws' w, ws = ws' ++ [w] := by
      rcases List.eq_nil_or_concat ws with h | ⟨l, a, h⟩
      · rw [h] at e
        cases e
      · exact ⟨l, a, by rw [h, List.concat_eq_append]⟩
    rw [List.length_append, List.length_singleton] at em hb
    have hwl : w < T.length := hw w (by simp)
    refine sq_pop_dat (i := 3) (k := 4) (ds := ws'.map natD) (d := natD w) (by show some (Sl.own ((ws' ++ [w]).map natD)) = _; rw [List.map_append]; rfl) ⟨_, rfl⟩ ?_
    refine for_by D.int T[w] (fun r δ => ∃ (as : List (Option Int)) (ws : List Nat) (s5 : Sl), (∀ x ∈ r, x ∈ T[w]) ∧ 2 * as.count none + ws.length < m ∧ as.length = T.length ∧ (∀ w ∈ ws, w < T.length) ∧ ws.length < 90000 - 2 * as.count none ∧ δ = ahS T v as ws (.dat (natD w)) s5) (δ1 := ahS T v as ws' (.dat (natD w)) s5) (fun P k => (ei_lst (ee_op (x := .lst (T.map intsD)) (y := natD w) (z := intsD T[w]) (v_at (i := 0) rfl) (v_at (i := 4) rfl) fun P k => ⟨_, atI_nat (by rw [List.getElem?_map, List.getElem?_eq_getElem hwl]; rfl), k⟩) : EvI (dItL (dOp ixOp (dVar 0) (dVar 4))) (ahS T v as ws' (.dat (natD w)) s5) _) _ k) ⟨as, ws', s5, fun x h => h, by omega, la, fun x hx => hw x (by simp [hx]), by omega, rfl⟩ ?_ ?_
    · rintro x r δ ⟨as, ws, s5, hr, hm, la, hw, hb, rfl⟩
      have hx := ri _ (List.getElem_mem hwl) x (hr x (by simp))
      obtain ⟨n, rfl⟩ : ∃ n : Nat, x = n := ⟨x.toNat, by omega⟩
      have hn : n < as.length := by omega
      refine ⟨ahS T v as ws (.dat (natD w)) (.dat (natD n)), fun P k => k, ?_⟩
      have e1 : EvE (dIxO 2 (dVar 5)) (ahS T v as ws (.dat (natD w)) (.dat (natD n))) (optD as[n]) := ixo_gen (i := 2) rfl (v_at (i := 5) rfl) (by rw [List.getElem?_map, List.getElem?_eq_getElem hn]; rfl)
      refine st_if (b := isNon (optD as[n])) (ev_tst fun P k => e1 _ k) (fun e => ?_) fun e => ?_
      · have en : as[n] = none := by
          cases h : as[n] with
          | none => rfl
          | some z => rw [h] at e; cases e
        have hc := cnt_set (u := (w : Int)) (show as[n]? = some none by rw [List.getElem?_eq_getElem hn, en])
        refine sq_asgG (d := natD w) (v_at (i := 4) rfl) ?_
        refine gsb_at (δ := ahS T v as ws (.dat (natD w)) (.dat (natD n))) (d := natD w) (i := 2) (a := dVar 5) (v := n) rfl (v_at (i := 5) rfl) (by rw [List.length_map]; exact hn) ?_
        have e2 : (as.map optD).set n (natD w) = (as.set n (some (w : Int))).map optD := by
          rw [List.map_set]
          rfl
        rw [e2]
        refine st_append (i := 3) (d := natD n) (ds := ws.map natD) (v_at (i := 5) rfl) rfl (by rw [List.length_map]; omega) ⟨r, rfl, as.set n (some (w : Int)), ws ++ [n], .dat (natD n), fun x h => hr x (by simp [h]), by rw [List.length_append, List.length_singleton]; omega, by rw [List.length_set]; exact la, fun x hx2 => ?_, by rw [List.length_append, List.length_singleton]; omega, ?_⟩
        · rcases List.mem_append.mp hx2 with h | h
          · exact hw x h
          · rw [List.mem_singleton.mp h]
            omega
        · unfold ahS
          rw [List.map_append]
          rfl
      · exact ⟨r, rfl, as, ws, .dat (natD n), fun x h => hr x (by simp [h]), hm, la, hw, hb, rfl⟩
    · rintro δ ⟨as, ws, s5, _, hm, la, hw, hb, rfl⟩
      exact ⟨_, hm, as, ws, .dat (natD w), s5, rfl, la, hw, hb, rfl⟩
  · exact q as
end
end K26
set_option Elab.async false
set_option linter.all false
set_option maxRecDepth 100000
set_option maxHeartbeats 400000
namespace K26
open PySem PySem.Spec PyProof.Rows L2
section
variable {Q : D → Prop} {T : List (List Int)}
/-- from place 0 every place is reached -/
def WholeT (T : List (List Int)) : Prop := ∀ S : Nat → Prop, S 0 → (∀ (v : Nat) (row : List Int) (x : Nat), S v → T[v]? = some row → (x : Int) ∈ row → S x) → ∀ v, v < T.length → S v
theorem nodup_sub : ∀ {ms l : List Nat}, ms.Nodup → (∀ x ∈ ms, x ∈ l) → ms.length ≤ l.length
  | [], l, _, _ => Nat.zero_le _
  | x :: ms, l, nd, h => by
    obtain ⟨n1, n2⟩ := List.nodup_cons.mp nd
    have hx := h x (List.mem_cons_self ..)
    have h2 := nodup_sub (l := l.erase x) n2 fun y hy => (List.mem_erase_of_ne (show y ≠ x from fun z => n1 (by rw [← z]; exact hy))).mpr (h y (List.mem_cons_of_mem _ hy))
    rw [List.length_erase_of_mem hx] at h2
    have := List.length_pos_of_mem hx
    rw [List.length_cons]
    omega
theorem nodup_len {ms : List Nat} {n : Nat} (nd : ms.Nodup) (h : ∀ x ∈ ms, x < n) : ms.length ≤ n := by
  have h1 := nodup_sub (l := List.range n) nd fun x hx => List.mem_range.mpr (h x hx)
  rw [List.length_range] at h1
  exact h1
theorem all_len {ms : List Nat} {n : Nat} (h : ∀ x, x < n → x ∈ ms) : n ≤ ms.length := by
  have h1 := nodup_sub (ms := List.range n) (l := ms) List.nodup_range fun x hx => h x (List.mem_range.mp hx)
  rw [List.length_range] at h1
  exact h1
theorem any_nat {ms : List Nat} {n : Nat} : ((D.pys (ms.map natD)).any fun z => PyData.eqv z (natD n).py) = ms.any (· == n) := by
  rw [pys_map, List.map_map, List.any_map]
  refine congrArg (fun f => ms.any f) (funext fun x => ?_)
  show PyData.eqv (.int (x : Int)) (.int (n : Int)) = _
  have e : ((x : Int) == (n : Int)) = (x == n) := by
    rw [Bool.eq_iff_iff, beq_iff_eq, beq_iff_eq]
    omega
  simp [PyData.eqv, e]
theorem nc_nats (ms : List Nat) : Nc 1 (.lst (ms.map natD)) := .lst (mem_map_all fun x => .int _)
theorem ev_niO {δ : DS} {a : DTE} {i n : Nat} {ms : List Nat} (ha : EvE a δ (natD n)) (h : δ[i]? = some (.own (ms.map natD))) : Ev (dTst (dNotInO a i)) δ (!ms.any (· == n)) := fun P k => by
  refine ha _ ?_
  show (match δ[i]? with | some (.own ds) => ((natD n).flat = true ∧ D.flats ds = true ∧ SeqAt.shaped (natD n).py = true ∧ SeqAt.shaped (.list (D.pys ds)) = true) ∧ P (!(D.pys ds).any fun z => PyData.eqv z (natD n).py) δ | _ => False)
  rw [h]
  refine ⟨⟨rfl, (nc_nats ms).fl, (Nc.int (n := 0) (n : Int)).ok.sh, (nc_nats ms).ok.sh⟩, ?_⟩
  rw [any_nat]
  exact k
theorem it_pop {δ : DS} {rows ds row : List D} {n : Nat} {P : List D → DS → Prop} (h0 : δ[0]? = some (.dat (.lst rows))) (h2 : δ[2]? = some (.own (ds ++ [natD n]))) (hr : rows[n]? = some (.lst row)) (k : P row (δ.set 2 (.own ds))) : dItL (dOp ixOp (dVar 0) (dPop 2)) δ P := by
  unfold dItL dOp dVar dPop ownS
  rw [h0]
  dsimp only
  rw [h2]
  refine ⟨natD n, by simp, .lst row, atI_nat hr, ?_⟩
  rw [List.dropLast_concat]
  exact k
def Closed (T : List (List Int)) (w : Nat) (ms ws : List Nat) : Prop := ∀ (v : Nat) (row : List Int) (x : Nat), v ∈ ms → v ∉ ws → v ≠ w → T[v]? = some row → (x : Int) ∈ row → x ∈ ms
abbrev whS (T : List (List Int)) (ms ws : List Nat) (s3 : Sl) : DS := [.dat (.lst (T.map intsD)), .own (ms.map natD), .own (ws.map natD), s3]
theorem p_is_whole (tl : T.length < 1000) (t0 : 0 < T.length) (ri : RowsIn T) (wh : WholeT T) (q : Q (.bl true)) : fs_is_whole [.lst (T.map intsD)] Q := by
  have start : ∀ E : DEnds, ∀ u : DTS, u E (whS T [0] [0] .no) → dSeq (dPar 1 2 (dOwnL (dCons (dC (.int 0)) dNil)) (dOwnL (dCons (dC (.int 0)) dNil))) u E [.dat (.lst (T.map intsD)), .no, .no, .no] := fun E u k => k
  refine start _ _ ?_
  refine sq_while (fun m δ => ∃ (ms ws : List Nat) (s3 : Sl), m = 2 * (T.length - ms.length) + ws.length ∧ ms.Nodup ∧ (∀ v ∈ ms, v < T.length) ∧ 0 ∈ ms ∧ (∀ v ∈ ws, v ∈ ms) ∧ Closed T T.length ms ws ∧ ws.length ≤ ms.length ∧ δ = whS T ms ws s3) ⟨_, [0], [0], .no, rfl, by simp, fun v hv => by rw [List.mem_singleton.mp hv]; exact t0, by simp, fun v hv => hv, fun v row x h1 h2 => absurd h1 h2, Nat.le_refl _, rfl⟩ ?_
  rintro m δ ⟨ms, ws, s3, em, nd, ml, m0, wm, cl, le, rfl⟩
  refine ⟨!(ws.map natD).isEmpty, ev_nilO (n := 1) (i := 2) rfl (nc_nats ws), fun e => ?_, fun e => ?_⟩
  · obtain ⟨ws', w, rfl⟩ : ∃ ws' w, ws = ws' ++ [w] := by
      rcases List.eq_nil_or_concat ws with h | ⟨l, a, h⟩
      · rw [h] at e
        cases e
      · exact ⟨l, a, by rw [h, List.concat_eq_append]⟩
    rw [List.length_append, List.length_singleton] at em le
    have hwm : w ∈ ms := wm w (by simp)
    have hwl : w < T.length := ml w hwm
    refine for_by D.int T[w] (fun r δ => ∃ (dn : List Int) (ms ws : List Nat) (s3 : Sl), T[w] = dn ++ r ∧ 2 * (T.length - ms.length) + ws.length < m ∧ ms.Nodup ∧ (∀ v ∈ ms, v < T.length) ∧ 0 ∈ ms ∧ (∀ v ∈ ws, v ∈ ms) ∧ Closed T w ms ws ∧ (∀ x : Nat, (x : Int) ∈ dn → x ∈ ms) ∧ ws.length ≤ ms.length ∧ δ = whS T ms ws s3) (δ1 := whS T ms ws' s3) (fun P k => it_pop (ds := ws'.map natD) (n := w) (rows := T.map intsD) (row := T[w].map D.int) rfl (by show some (Sl.own ((ws' ++ [w]).map natD)) = _; rw [List.map_append]; rfl) (by rw [List.getElem?_map, List.getElem?_eq_getElem hwl]; rfl) k) ⟨[], ms, ws', s3, rfl, by omega, nd, ml, m0, fun v hv => wm v (by simp [hv]), fun v row x h1 h2 h3 => cl v row x h1 (by simp [h2, h3]) (by have := ml v h1; omega), fun x h => (nomatch h), by omega, rfl⟩ ?_ ?_
    · rintro x r δ ⟨dn, ms, ws, s3, ed, hm, nd, ml, m0, wm, cl, dm, le, rfl⟩
      have hx := ri _ (List.getElem_mem hwl) x (by rw [ed]; simp)
      obtain ⟨n, rfl⟩ : ∃ n : Nat, x = n := ⟨x.toNat, by omega⟩
      have l2 := nodup_len nd ml
      refine ⟨whS T ms ws (.dat (natD n)), fun P k => k, ?_⟩
      refine st_if (b := !ms.any (· == n)) (ev_niO (ms := ms) (i := 1) (v_at (i := 3) rfl) rfl) (fun e => ?_) fun e => ?_
      · have nm : n ∉ ms := fun z => by
          rw [List.any_eq_true.mpr ⟨n, z, by simp⟩] at e
          cases e
        have nd2 : (ms ++ [n]).Nodup := List.nodup_append.mpr ⟨nd, by simp, fun a ha b hb => by rw [List.mem_singleton.mp hb]; exact fun z => nm (z ▸ ha)⟩
        have ml2 : ∀ v ∈ ms ++ [n], v < T.length := fun v hv => by
          rcases List.mem_append.mp hv with h | h
          · exact ml v h
          · rw [List.mem_singleton.mp h]; omega
        have l3 := nodup_len nd2 ml2
        rw [List.length_append, List.length_singleton] at l3
        refine sq_append (i := 1) (d := natD n) (ds := ms.map natD) (v_at (i := 3) rfl) rfl (by rw [List.length_map]; omega) ?_
        refine st_append (i := 2) (d := natD n) (ds := ws.map natD) (v_at (i := 3) rfl) rfl (by rw [List.length_map]; omega) ⟨r, rfl, dn ++ [(n : Int)], ms ++ [n], ws ++ [n], .dat (natD n), by rw [ed, List.append_assoc]; rfl, by rw [List.length_append, List.length_append, List.length_singleton]; omega, nd2, ml2, List.mem_append_left _ m0, fun v hv => ?_, fun v row x h1 h2 h3 h4 h5 => ?_, fun x hx => ?_, by rw [List.length_append, List.length_append]; omega, ?_⟩
        · rcases List.mem_append.mp hv with h | h
          · exact List.mem_append_left _ (wm v h)
          · exact List.mem_append_right _ h
        · rw [List.mem_append] at h1 h2
          rcases h1 with h | h
          · exact List.mem_append_left _ (cl v row x h (fun z => h2 (.inl z)) h3 h4 h5)
          · exact absurd (.inr h) h2
        · rcases List.mem_append.mp hx with h | h
          · exact List.mem_append_left _ (dm x h)
          · have := List.mem_singleton.mp h
            exact List.mem_append_right _ (List.mem_singleton.mpr (by omega))
        · unfold whS
          rw [List.map_append, List.map_append]
          rfl
      · have hn : n ∈ ms := by
          rw [Bool.not_eq_false', List.any_eq_true] at e
          obtain ⟨y, hy, e2⟩ := e
          rw [← eq_of_beq e2]
          exact hy
        exact ⟨r, rfl, dn ++ [(n : Int)], ms, ws, .dat (natD n), by rw [ed, List.append_assoc]; rfl, hm, nd, ml, m0, wm, cl, fun x hx => by
          rcases List.mem_append.mp hx with h | h
          · exact dm x h
          · have := List.mem_singleton.mp h
            rw [show x = n by omega]
            exact hn, le, rfl⟩
    · rintro δ ⟨dn, ms, ws, s3, ed, hm, nd, ml, m0, wm, cl, dm, le, rfl⟩
      rw [List.append_nil] at ed
      refine ⟨_, hm, ms, ws, s3, rfl, nd, ml, m0, wm, fun v row x h1 h2 _ h4 h5 => ?_, le, rfl⟩
      by_cases c : v = w
      · subst c
        rw [List.getElem?_eq_getElem hwl] at h4
        cases h4
        exact dm x (ed ▸ h5)
      · exact cl v row x h1 h2 c h4 h5
  · have ew : ws = [] := by
      cases ws with
      | nil => rfl
      | cons x l => cases e
    subst ew
    have all : ∀ v, v < T.length → v ∈ ms := wh (fun v => v ∈ ms) m0 fun v row x hv hr hx => cl v row x hv (fun z => nomatch z) (by have := ml v hv; omega) hr hx
    have l1 := all_len all
    have l2 := nodup_len nd ml
    refine st_ret (δ := whS T ms [] s3) (d := .bl true) (ee_op (x := .int (ms.length : Nat)) (y := .int (T.length : Nat)) (fun P k => by
      show P (.int ((ms.map natD).length : Nat)) _
      rw [List.length_map]
      exact k) (ee_cb (xs := [.lst (T.map intsD)]) (ea_cons (v_at (i := 0) rfl) ea_nil) len_lst) fun P k => eq_int _ _ P (by
      rw [show ((ms.length : Nat) : Int) = (T.length : Nat) by omega, beq_self_eq_true]
      exact k)) q
end
end K26
set_option Elab.async false
set_option linter.all false
set_option maxRecDepth 100000
set_option maxHeartbeats 400000
namespace K26
open PySem PySem.Spec PyProof.Rows L2
theorem sortI_perm (l : List Int) : (sortI l).Perm l := srt_perm
/-! ## the tree that is drawn, plainly -/
theorem row_app (L : List (Int × Int)) (p : Int × Int) (v : Nat) : rowOf (L ++ [p]) v = rowOf L v ++ ((if p.1 = (v : Int) then [p.2] else []) ++ (if p.2 = (v : Int) then [p.1] else [])) := by
  unfold rowOf
  rw [List.flatMap_append, List.flatMap_cons, List.flatMap_nil, List.append_nil]
theorem row_mem {L : List (Int × Int)} {v : Nat} {x : Int} : x ∈ rowOf L v ↔ ∃ p ∈ L, (p.1 = (v : Int) ∧ x = p.2) ∨ (p.2 = (v : Int) ∧ x = p.1) := by
  unfold rowOf
  rw [List.mem_flatMap]
  refine exists_congr fun p => and_congr_right fun _ => ?_
  rw [List.mem_append]
  refine or_congr ?_ ?_
  · by_cases h : p.1 = (v : Int) <;> simp [h]
  · by_cases h : p.2 = (v : Int) <;> simp [h]
theorem row_perm {L M : List (Int × Int)} (h : L.Perm M) (v : Nat) : (rowOf L v).Perm (rowOf M v) := h.flatMap_right _
theorem row_nrm (v : Nat) : ∀ L : List (Int × Int), (rowOf (L.map nrmP) v).Perm (rowOf L v)
  | [] => .refl _
  | p :: L => by
    have ih := row_nrm v L
    unfold rowOf at ih ⊢
    rw [List.map_cons, List.flatMap_cons, List.flatMap_cons]
    refine List.Perm.append ?_ ih
    unfold nrmP
    by_cases h : p.2 < p.1
    · rw [if_pos h, if_neg (show ¬ p.2 > p.1 by omega)]
      exact List.perm_append_comm
    · rw [if_neg h]
      by_cases h2 : p.2 > p.1
      · rw [if_pos h2]
      · rw [if_neg h2, show p.2 = p.1 by omega]
theorem row_bes (v : Nat) : ∀ R : List (Int × Int), ((R.filter fun p => p.1 == (v : Int)).map (·.2) ++ (R.filter fun p => p.2 == (v : Int)).map (·.1)).Perm (rowOf R v)
  | [] => .refl _
  | p :: R => by
    have ih := row_bes v R
    unfold rowOf at ih ⊢
    rw [List.flatMap_cons, List.filter_cons, List.filter_cons]
    by_cases h : p.1 = (v : Int)
    · rw [if_pos (beq_iff_eq.mpr h), if_pos h, List.map_cons]
      by_cases h2 : p.2 = (v : Int)
      · rw [if_pos (beq_iff_eq.mpr h2), if_pos h2, List.map_cons]
        show (p.2 :: (_ ++ p.1 :: _)).Perm (p.2 :: p.1 :: _)
        exact (List.perm_middle.trans (ih.cons p.1)).cons p.2
      · rw [if_neg (fun z => h2 (beq_iff_eq.mp z)), if_neg h2]
        exact ih.cons p.2
    · rw [if_neg (fun z => h (beq_iff_eq.mp z)), if_neg h]
      by_cases h2 : p.2 = (v : Int)
      · rw [if_pos (beq_iff_eq.mpr h2), if_pos h2, List.map_cons]
        exact List.perm_middle.trans (ih.cons p.1)
      · rw [if_neg (fun z => h2 (beq_iff_eq.mp z)), if_neg h2]
        exact ih
theorem bes_eq (R : List (Int × Int)) (v : Nat) : besL R (v : Nat) = sortI (rowOf R v) := sortI_uniq (row_bes v R)
theorem rev_ind {α : Type} {P : List α → Prop} (h0 : P []) (h1 : ∀ l a, P l → P (l ++ [a])) (l : List α) : P l := by
  have h : ∀ r : List α, P r.reverse := fun r => by
    induction r with
    | nil => exact h0
    | cons a r ih =>
      rw [List.reverse_cons]
      exact h1 _ _ ih
  have := h l.reverse
  rw [List.reverse_reverse] at this
  exact this
theorem Ch.init {L : List (Int × Int)} {p : Int × Int} (h : Ch (L ++ [p])) : Ch L ∧ p.2 = ((L.length + 1 : Nat) : Int) ∧ 0 ≤ p.1 ∧ p.1 ≤ (L.length : Int) := by
  refine ⟨fun k q hq => h k q ?_, h L.length p ?_⟩
  · have := (List.getElem?_eq_some_iff.mp hq).1
    rw [List.getElem?_append_left this]
    exact hq
  · rw [List.getElem?_append_right (Nat.le_refl _), Nat.sub_self]
    rfl
theorem Ch.get {L : List (Int × Int)} (h : Ch L) {p : Int × Int} (hp : p ∈ L) : 0 ≤ p.1 ∧ p.1 < p.2 ∧ p.2 ≤ (L.length : Int) := by
  obtain ⟨k, hk⟩ := List.mem_iff_getElem?.mp hp
  have hl := (List.getElem?_eq_some_iff.mp hk).1
  obtain ⟨h1, h2, h3⟩ := h k p hk
  omega
theorem Ch.pw {L : List (Int × Int)} (h : Ch L) : L.Pairwise fun p q => p.2 < q.2 := List.pairwise_iff_getElem.mpr fun i j hi hj hij => by
  have h1 := h i _ (List.getElem?_eq_getElem hi)
  have h2 := h j _ (List.getElem?_eq_getElem hj)
  omega
theorem Ch.rows {v : Nat} : ∀ {L : List (Int × Int)}, Ch L → (rowOf L v).Nodup ∧ (L.length < v → rowOf L v = []) := fun {L} => rev_ind (P := fun L => Ch L → (rowOf L v).Nodup ∧ (L.length < v → rowOf L v = [])) (fun _ => ⟨List.nodup_nil, fun _ => rfl⟩) (fun L p ih h => by
  obtain ⟨hc, h1, h2, h3⟩ := h.init
  obtain ⟨nd, em⟩ := ih hc
  rw [row_app, List.length_append, List.length_singleton]
  by_cases e1 : p.1 = (v : Int)
  · rw [if_pos e1, if_neg (show ¬ p.2 = (v : Int) by omega), List.append_nil]
    refine ⟨List.nodup_append.mpr ⟨nd, List.nodup_cons.mpr ⟨List.not_mem_nil, List.nodup_nil⟩, fun a ha b hb e => ?_⟩, fun z => by omega⟩
    rw [List.mem_singleton.mp hb] at e
    subst e
    obtain ⟨q, hq, hh⟩ := row_mem.mp ha
    have := hc.get hq
    omega
  · rw [if_neg e1, List.nil_append]
    by_cases e2 : p.2 = (v : Int)
    · rw [if_pos e2, em (by omega), List.nil_append]
      exact ⟨List.nodup_cons.mpr ⟨List.not_mem_nil, List.nodup_nil⟩, fun z => by omega⟩
    · rw [if_neg e2, List.append_nil]
      exact ⟨nd, fun z => em (by omega)⟩) L
theorem Ch.leaf {v m : Nat} (hv : m ≤ v) : ∀ {L : List (Int × Int)}, Ch L → (∀ p ∈ L, p.1 < (m : Int)) → (rowOf L v).length ≤ 1 := fun {L} => rev_ind (P := fun L => Ch L → (∀ p ∈ L, p.1 < (m : Int)) → (rowOf L v).length ≤ 1) (fun _ _ => Nat.zero_le _) (fun L p ih h pa => by
  obtain ⟨hc, h1, h2, h3⟩ := h.init
  have i := ih hc fun q hq => pa q (List.mem_append_left _ hq)
  have hp := pa p (List.mem_append_right _ (List.mem_singleton.mpr rfl))
  rw [row_app, if_neg (show ¬ p.1 = (v : Int) by omega), List.nil_append]
  by_cases e2 : p.2 = (v : Int)
  · rw [if_pos e2, (Ch.rows hc).2 (by omega), List.nil_append]
    exact Nat.le_refl _
  · rw [if_neg e2, List.append_nil]
    exact i) L
/-! ### other numbers -/
structure Names (N : Nat) (ns : List Nat) : Prop where
  nd : ns.Nodup
  ln : ns.length = N + 1
  le : ∀ u, u ≤ N → ns.getD u 0 ≤ N
  on : ∀ v, v ≤ N → ∃ u, u ≤ N ∧ ns.getD u 0 = v
theorem names_of {N : Nat} {ns : List Nat} (h : ns.Perm (List.range' 0 (N + 1))) : Names N ns := by
  have ln : ns.length = N + 1 := by rw [h.length_eq, List.length_range']
  refine ⟨h.nodup_iff.mpr List.nodup_range', ln, fun u hu => ?_, fun v hv => ?_⟩
  · have hm : ns.getD u 0 ∈ ns := by
      rw [List.getD_eq_getElem?_getD, List.getElem?_eq_getElem (by omega)]
      exact List.getElem_mem _
    have := List.mem_range'_1.mp (h.mem_iff.mp hm)
    omega
  · obtain ⟨u, hu⟩ := List.mem_iff_getElem?.mp (h.mem_iff.mpr (List.mem_range'_1.mpr (show 0 ≤ v ∧ v < 0 + (N + 1) by omega)))
    have := (List.getElem?_eq_some_iff.mp hu).1
    refine ⟨u, by omega, ?_⟩
    rw [List.getD_eq_getElem?_getD, hu]
    rfl
theorem Names.inj {N : Nat} {ns : List Nat} (h : Names N ns) {u v : Nat} (hu : u ≤ N) (hv : v ≤ N) (e : ns.getD u 0 = ns.getD v 0) : u = v := by
  have ln := h.ln
  rw [List.getD_eq_getElem?_getD, List.getD_eq_getElem?_getD, List.getElem?_eq_getElem (by omega), List.getElem?_eq_getElem (by omega)] at e
  exact (List.getElem_inj h.nd).mp e
def nmI (ns : List Nat) (x : Int) : Int := ((ns.getD x.toNat 0 : Nat) : Int)
theorem Names.injI {N : Nat} {ns : List Nat} (h : Names N ns) {x y : Int} (hx : 0 ≤ x ∧ x ≤ (N : Int)) (hy : 0 ≤ y ∧ y ≤ (N : Int)) (e : nmI ns x = nmI ns y) : x = y := by
  unfold nmI at e
  have := h.inj (show x.toNat ≤ N by omega) (show y.toNat ≤ N by omega) (by omega)
  omega
theorem Names.leI {N : Nat} {ns : List Nat} (h : Names N ns) {x : Int} (hx : 0 ≤ x ∧ x ≤ (N : Int)) : 0 ≤ nmI ns x ∧ nmI ns x ≤ (N : Int) := by
  unfold nmI
  have := h.le x.toNat (by omega)
  omega
theorem row_ren {N : Nat} {ns : List Nat} (h : Names N ns) {u : Nat} (hu : u ≤ N) : ∀ {L : List (Int × Int)}, (∀ p ∈ L, (0 ≤ p.1 ∧ p.1 ≤ (N : Int)) ∧ 0 ≤ p.2 ∧ p.2 ≤ (N : Int)) → rowOf (L.map (ren ns)) (ns.getD u 0) = (rowOf L u).map (nmI ns)
  | [], _ => rfl
  | p :: L, hp => by
    have ih := row_ren h hu fun q hq => hp q (List.mem_cons_of_mem _ hq)
    obtain ⟨b1, b2⟩ := hp p (List.mem_cons_self ..)
    unfold rowOf at ih ⊢
    rw [List.map_cons, List.flatMap_cons, List.flatMap_cons, List.map_append, ih, List.map_append]
    have c : ∀ x : Int, 0 ≤ x ∧ x ≤ (N : Int) → (nmI ns x = ((ns.getD u 0 : Nat) : Int) ↔ x = (u : Int)) := fun x hx => ⟨fun e => h.injI hx (by omega) (by rw [e]; unfold nmI; rw [Int.toNat_natCast]), fun e => by subst e; unfold nmI; rw [Int.toNat_natCast]⟩
    have c1 := c p.1 b1
    have c2 := c p.2 b2
    show (if nmI ns p.1 = _ then [nmI ns p.2] else []) ++ (if nmI ns p.2 = _ then [nmI ns p.1] else []) ++ _ = _
    simp only [c1, c2]
    congr 2
    · split <;> rfl
    · split <;> rfl
/-! ### what a country asks -/
def tT (R : List (Int × Int)) : List (List Int) := (List.range (R.length + 1)).map fun i => sortI (rowOf R i)
theorem tT_len (R : List (Int × Int)) : (tT R).length = R.length + 1 := by
  unfold tT
  rw [List.length_map, List.length_range]
theorem tT_at {R : List (Int × Int)} {v : Nat} (h : v ≤ R.length) : (tT R)[v]? = some (sortI (rowOf R v)) := by
  unfold tT
  rw [List.getElem?_map, List.getElem?_range (by omega)]
  rfl
theorem tT_get {R : List (Int × Int)} {v : Nat} {row : List Int} (h : (tT R)[v]? = some row) : v ≤ R.length ∧ row = sortI (rowOf R v) := by
  have h1 := (List.getElem?_eq_some_iff.mp h).1
  rw [tT_len] at h1
  have h2 : v ≤ R.length := by omega
  rw [tT_at h2] at h
  cases h
  exact ⟨h2, rfl⟩
theorem tT_same {R S : List (Int × Int)} (hl : R.length = S.length) (h : ∀ v, (rowOf R v).Perm (rowOf S v)) : tT R = tT S := by
  unfold tT
  rw [hl]
  exact List.map_congr_left fun v _ => sortI_uniq (h v)
theorem tT_nrm (R : List (Int × Int)) : tT (R.map nrmP) = tT R := tT_same (List.length_map ..) fun v => row_nrm v R
theorem tT_perm {R S : List (Int × Int)} (h : R.Perm S) : tT R = tT S := tT_same h.length_eq (row_perm h)
structure TreeOk (R : List (Int × Int)) : Prop where
  few : R.length ≤ 14
  pr : ∀ p ∈ R, ((0 ≤ p.1 ∧ p.1 ≤ (R.length : Int)) ∧ 0 ≤ p.2 ∧ p.2 ≤ (R.length : Int)) ∧ p.1 ≠ p.2
  nd : (R.map nrmP).Nodup
  rn : ∀ v, (rowOf R v).Nodup
  r4 : ∀ v, v ≤ R.length → (rowOf R v).length ≤ 4
  y1 : 1 ≤ ((tT R).filter fun row => decide (1 < row.length)).length
  y7 : ((tT R).filter fun row => decide (1 < row.length)).length ≤ 7
  wh : WholeT (tT R)
theorem sortI_len (l : List Int) : (sortI l).length = l.length := (sortI_perm l).length_eq
theorem nrm_two {p q : Int × Int} (e : nrmP p = nrmP q) : (p.1 = q.1 ∧ p.2 = q.2) ∨ (p.1 = q.2 ∧ p.2 = q.1) := by
  unfold nrmP at e
  have e1 := congrArg Prod.fst e
  have e2 := congrArg Prod.snd e
  dsimp only at e1 e2
  split at e1 <;> split at e1 <;> split at e2 <;> split at e2 <;> omega
theorem Drawn.tree {m : Nat} {L : List (Int × Int)} {ns : List Nat} (d : Drawn m L) (hn : ns.Perm (List.range' 0 (L.length + 1))) : TreeOk (L.map (ren ns)) := by
  have nm := names_of hn
  have ch := d.ch
  have few := d.few
  have rl : (L.map (ren ns)).length = L.length := List.length_map ..
  have bd : ∀ p ∈ L, (0 ≤ p.1 ∧ p.1 ≤ (L.length : Int)) ∧ 0 ≤ p.2 ∧ p.2 ≤ (L.length : Int) := fun p hp => by
    have := ch.get hp
    omega
  have row : ∀ u, u ≤ L.length → rowOf (L.map (ren ns)) (ns.getD u 0) = (rowOf L u).map (nmI ns) := fun u hu => row_ren nm hu bd
  have rowIn : ∀ {u : Nat} {x : Int}, x ∈ rowOf L u → 0 ≤ x ∧ x ≤ (L.length : Int) := fun {u x} hx => by
    obtain ⟨p, hp, hh⟩ := row_mem.mp hx
    have := bd p hp
    omega
  have far : ∀ v, L.length < v → rowOf (L.map (ren ns)) v = [] := fun v hv => List.eq_nil_iff_forall_not_mem.mpr fun x hx => by
    obtain ⟨q, hq, hh⟩ := row_mem.mp hx
    obtain ⟨p, hp, rfl⟩ := List.mem_map.mp hq
    have b := bd p hp
    have c1 := nm.leI b.1
    have c2 := nm.leI b.2
    have d1 : (ren ns p).1 = nmI ns p.1 := rfl
    have d2 : (ren ns p).2 = nmI ns p.2 := rfl
    omega
  have deg4 : ∀ u, u ≤ L.length → (rowOf L u).length ≤ 4 := fun u hu => by
    by_cases h : u < m
    · exact d.hi u h
    · have := Ch.leaf (Nat.le_of_not_lt h) ch d.pa
      omega
  have yl : ((tT (L.map (ren ns))).filter fun row => decide (1 < row.length)).length = ((List.range (L.length + 1)).filter fun u => decide (1 < (rowOf L u).length)).length := by
    unfold tT
    rw [rl]
    have p1 : (List.range (L.length + 1)).Perm ns := by
      rw [List.range_eq_range']
      exact hn.symm
    have e1 : ns = (List.range (L.length + 1)).map fun u => ns.getD u 0 := by
      refine List.ext_getElem? fun u => ?_
      rw [List.getElem?_map]
      by_cases hu : u < L.length + 1
      · rw [List.getElem?_range hu]
        show _ = some (ns.getD u 0)
        have := nm.ln
        rw [List.getD_eq_getElem?_getD, List.getElem?_eq_getElem (by omega)]
        rfl
      · have := nm.ln
        rw [List.getElem?_eq_none (by omega), List.getElem?_eq_none (by rw [List.length_range]; omega)]
        rfl
    have p2 := (p1.map fun i => sortI (rowOf (L.map (ren ns)) i)).filter fun row => decide (1 < row.length)
    have e2 : ∀ G : Nat → List Int, ns.map G = (List.range (L.length + 1)).map fun u => G (ns.getD u 0) := fun G => by
      conv => lhs; rw [e1]
      rw [List.map_map]
      rfl
    rw [p2.length_eq, e2, List.filter_map, List.length_map]
    congr 1
    refine List.filter_congr fun u hu => ?_
    have hu2 : u ≤ L.length := by
      have := List.mem_range.mp hu
      omega
    show decide (1 < (sortI (rowOf (L.map (ren ns)) (ns.getD u 0))).length) = _
    rw [sortI_len, row u hu2, List.length_map]
  refine ⟨by omega, fun q hq => ?_, ?_, fun v => ?_, fun v hv => ?_, ?_, ?_, ?_⟩
  · obtain ⟨p, hp, rfl⟩ := List.mem_map.mp hq
    have b := bd p hp
    rw [rl]
    refine ⟨⟨nm.leI b.1, nm.leI b.2⟩, fun e => ?_⟩
    have := nm.injI b.1 b.2 e
    have := ch.get hp
    omega
  · rw [List.map_map]
    refine List.pairwise_map.mpr (List.Pairwise.imp_of_mem (fun {p q} hp hq h e => ?_) ch.pw)
    have bp := bd p hp
    have bq := bd q hq
    have gp := ch.get hp
    have gq := ch.get hq
    rcases nrm_two e with ⟨_, e2⟩ | ⟨e1, e2⟩
    · have := nm.injI bp.2 bq.2 e2
      omega
    · have := nm.injI bp.1 bq.2 e1
      have := nm.injI bp.2 bq.1 e2
      omega
  · by_cases hv : v ≤ L.length
    · obtain ⟨u, hu, rfl⟩ := nm.on v hv
      rw [row u hu]
      refine List.pairwise_map.mpr (List.Pairwise.imp_of_mem (fun {x y} hx hy h e => h (nm.injI (rowIn hx) (rowIn hy) e)) (Ch.rows ch).1)
    · rw [far v (by omega)]
      exact List.nodup_nil
  · rw [rl] at hv
    obtain ⟨u, hu, rfl⟩ := nm.on v hv
    rw [row u hu, List.length_map]
    exact deg4 u hu
  · rw [yl]
    have h0 := d.lo 0 (by have := d.m1; omega)
    unfold deg at h0
    exact List.length_pos_of_mem (List.mem_filter.mpr ⟨List.mem_range.mpr (show 0 < L.length + 1 by omega), decide_eq_true (by omega)⟩)
  · rw [yl]
    have := d.m3
    have h1 := nodup_len (ms := (List.range (L.length + 1)).filter fun u => decide (1 < (rowOf L u).length)) (n := m) (List.nodup_range.filter _) fun u hu => by
      obtain ⟨h1, h2⟩ := List.mem_filter.mp hu
      refine Nat.lt_of_not_le fun z => ?_
      have := Ch.leaf z ch d.pa
      have := of_decide_eq_true h2
      omega
    omega
  · intro S s0 cl v hv
    rw [tT_len, rl] at hv
    have step : ∀ u w : Nat, u ≤ L.length → (w : Int) ∈ rowOf L u → S (ns.getD u 0) → S (ns.getD w 0) := fun u w hu hw hs => by
      refine cl (ns.getD u 0) (sortI (rowOf (L.map (ren ns)) (ns.getD u 0))) _ hs (tT_at (by rw [rl]; exact nm.le u hu)) ?_
      rw [(sortI_perm _).mem_iff, row u hu]
      exact List.mem_map.mpr ⟨(w : Int), hw, by unfold nmI; rw [Int.toNat_natCast]⟩
    have par : ∀ k, k < L.length → ∃ a : Nat, a ≤ k ∧ (a : Int) ∈ rowOf L (k + 1) ∧ ((k + 1 : Nat) : Int) ∈ rowOf L a := fun k hk => by
      have h := ch k _ (List.getElem?_eq_getElem hk)
      have hm := List.getElem_mem hk
      generalize L[k] = p at *
      refine ⟨p.1.toNat, by omega, row_mem.mpr ⟨p, hm, .inr ⟨h.1, by omega⟩⟩, row_mem.mpr ⟨p, hm, .inl ⟨by omega, h.1.symm⟩⟩⟩
    have down : ∀ u, u ≤ L.length → S (ns.getD u 0) → S (ns.getD 0 0) := fun u => by
      induction u using Nat.strongRecOn with
      | ind u ih =>
        intro hu hs
        cases u with
        | zero => exact hs
        | succ k =>
          obtain ⟨a, ha, h1, _⟩ := par k (by omega)
          exact ih a (by omega) (by omega) (step (k + 1) a hu h1 hs)
    have up : S (ns.getD 0 0) → ∀ u, u ≤ L.length → S (ns.getD u 0) := fun hs u => by
      induction u using Nat.strongRecOn with
      | ind u ih =>
        intro hu
        cases u with
        | zero => exact hs
        | succ k =>
          obtain ⟨a, ha, _, h2⟩ := par k (by omega)
          exact step a (k + 1) (by omega) h2 (ih a (by omega) (by omega))
    obtain ⟨z, hz, ez⟩ := nm.on 0 (Nat.zero_le _)
    obtain ⟨u, hu, eu⟩ := nm.on v (by omega)
    rw [← eu]
    exact up (down z hz (by rw [ez]; exact s0)) u hu
theorem TreeOk.rows {R : List (Int × Int)} (g : TreeOk R) : RowsIn (tT R) := fun row hr x hx => by
  obtain ⟨v, hv⟩ := List.mem_iff_getElem?.mp hr
  obtain ⟨_, rfl⟩ := tT_get hv
  obtain ⟨p, hp, hh⟩ := row_mem.mp ((sortI_perm _).mem_iff.mp hx)
  have := (g.pr p hp).1
  rw [tT_len]
  omega
theorem ys_eq (R : List (Int × Int)) : ysL R = ysOf (tT R) := by
  unfold ysL ysOf
  have e : (tT R).zipIdx = (List.range' 0 (R.length + 1)).map fun v => (sortI (rowOf R v), v) := by
    refine List.ext_getElem? fun v => ?_
    rw [List.getElem?_zipIdx, List.getElem?_map]
    by_cases hv : v < R.length + 1
    · rw [tT_at (by omega), ← List.range_eq_range', List.getElem?_range hv]
      simp
    · rw [List.getElem?_eq_none (by rw [tT_len]; omega), List.getElem?_eq_none (by rw [List.length_range']; omega)]
      rfl
  rw [e, List.filter_map, List.map_map]
  have e2 : ∀ l : List Nat, l.map ((fun p : List Int × Nat => p.2) ∘ fun v => (sortI (rowOf R v), v)) = l := fun l => by
    refine (List.map_congr_left fun v _ => ?_).trans (List.map_id l)
    rfl
  rw [e2]
  refine List.filter_congr fun v _ => ?_
  show _ = decide (1 < (sortI (rowOf R v)).length)
  rw [bes_eq]
theorem ys_len (R : List (Int × Int)) : (ysL R).length = ((tT R).filter fun row => decide (1 < row.length)).length := by
  rw [ys_eq]
  unfold ysOf
  rw [List.length_map]
  have e : ∀ (T : List (List Int)) (k : Nat), ((T.zipIdx k).filter fun p => decide (1 < p.1.length)).length = (T.filter fun row => decide (1 < row.length)).length := fun T => by
    induction T with
    | nil => intro k; rfl
    | cons row T ih =>
      intro k
      rw [List.zipIdx_cons, List.filter_cons, List.filter_cons]
      by_cases h : decide (1 < row.length) = true
      · rw [if_pos h, if_pos h, List.length_cons, List.length_cons, ih]
      · rw [if_neg h, if_neg h, ih]
  exact e _ 0
end K26
set_option Elab.async false
set_option linter.all false
set_option maxRecDepth 100000
set_option maxHeartbeats 400000
namespace K26
open PySem PySem.Spec PyProof.Rows L2
/-! ## the country is made, whole -/
section
variable {g : DTG} {t : DTT} {a : DTE} {vs : List Nat} {δ : DS}
theorem lcL_any {α : Type} (enc : α → D) (S : D → Prop) : ∀ (xs : List α) (acc : List D) (Q : List D → Prop), (∀ d ∈ acc, S d) →
    (∀ x ∈ xs, ∀ (K : D → Prop) (K' : Prop), (∀ y, S y → K y) → g (enc x) (wipeD δ vs) fun δ2 => t δ2 fun b δ3 => match b with
      | true => a δ3 fun y δ4 => wipeD δ4 vs = wipeD δ vs ∧ K y
      | false => wipeD δ3 vs = wipeD δ vs ∧ K') → (∀ es : List D, (∀ d ∈ es, S d) → Q es) → dLcL g t a vs δ Q (xs.map enc) acc
  | [], acc, Q, h, _, q => q acc h
  | x :: xs, acc, Q, h, hx, q => by
    refine hx x List.mem_cons_self (fun y => dLcL g t a vs δ Q (xs.map enc) (acc ++ [y])) (dLcL g t a vs δ Q (xs.map enc) acc) fun y hy => ?_
    refine lcL_any enc S xs (acc ++ [y]) Q (fun d hd => ?_) (fun z hz => hx z (List.mem_cons_of_mem _ hz)) q
    rcases List.mem_append.mp hd with k | k
    · exact h d k
    · rw [List.mem_singleton.mp k]
      exact hy
theorem lc_any {α : Type} {w : DTI} (enc : α → D) (S : D → Prop) (xs : List α) {P : D → DS → Prop} (hw : EvI w δ (xs.map enc)) (no : noOwn δ vs = true) (hl : xs.length < 100000)
    (hx : ∀ x ∈ xs, ∀ (K : D → Prop) (K' : Prop), (∀ y, S y → K y) → g (enc x) (wipeD δ vs) fun δ2 => t δ2 fun b δ3 => match b with
      | true => a δ3 fun y δ4 => wipeD δ4 vs = wipeD δ vs ∧ K y
      | false => wipeD δ3 vs = wipeD δ vs ∧ K') (q : ∀ es : List D, (∀ d ∈ es, S d) → P (.lst es) δ) : dLc w g t a vs δ P :=
  hw _ ⟨no, by rw [List.length_map]; exact hl, lcL_any enc S xs [] _ (fun d hd => nomatch hd) hx q⟩
theorem ee_fldI {k i n : Nat} {ds : List D} {d : D} {p : Addr} (h : δ[i]? = some (.ins p k ds)) (hd : ds[n]? = some d) : EvE (dFldV k i n) δ d := fun P q => by
  refine ⟨?_, ?_⟩
  · unfold dFldK
    rw [h]
  · unfold dFld
    rw [h]
    exact ⟨d, hd, q⟩
end
section
variable {Q : D → Prop} {R F : List (Int × Int)}
theorem pairs_nonon (R : List (Int × Int)) : ((D.pys (R.map pairD)).any fun z => PyData.eqv z D.non.py) = false := by
  rw [pys_map, List.map_map, List.any_map]
  refine List.any_eq_false.mpr fun a _ => ?_
  show ¬ PyData.eqv (.tuple [.int a.1, .int a.2]) .none = true
  simp [PyData.eqv]
theorem nc_pairs (R : List (Int × Int)) : Nc 2 (psD R) := .lst (mem_map_all nc_pair)
theorem ties_tT (R : List (Int × Int)) : tiesD R = (tT R).map intsD := by
  unfold tiesD tT
  rw [List.map_map]
  refine List.map_congr_left fun i _ => ?_
  show D.lst _ = intsD (sortI _)
  rw [sortD_I]
  rfl
def two (p : Int × Int) : List Int := [p.1, p.2]
theorem two_inj {p q : Int × Int} (h : two p = two q) : p = q := by
  unfold two at h
  simp only [List.cons.injEq, and_true] at h
  exact Prod.ext h.1 h.2
theorem len_set {i : Nat} {δ : DS} (h : δ[i]? = some (.dat (psD F))) (nd : F.Nodup) (l : F.length < 64) : EvE (dLenSet (dVar i)) δ (.int (F.length : Nat)) := fun P k => by
  refine (v_at h) _ ?_
  refine (⟨F.map two, ?_, List.pairwise_map.mpr (nd.imp fun h e => h (two_inj e)), by rw [List.length_map]; exact l, by rw [List.length_map]; exact k⟩ : ∃ ks : List (List Int), F.map pairD = ks.map tupI ∧ ks.Nodup ∧ ks.length < 64 ∧ P (.int ks.length) δ)
  rw [List.map_map]
  rfl
theorem p_ties_of (fb : ∀ p ∈ F, (0 ≤ p.1 ∧ p.1 ≤ (F.length : Int)) ∧ 0 ≤ p.2 ∧ p.2 ≤ (F.length : Int)) (fl : F.length < 1000) (q : Q (.lst ((tT F).map intsD))) : fs_ties_of [psD F] Q :=
  ⟨F, rfl, fb, fl, by rw [ties_tT]; exact q⟩
theorem nrm_in {p : Int × Int} {n : Int} (h : (0 ≤ p.1 ∧ p.1 ≤ n) ∧ 0 ≤ p.2 ∧ p.2 ≤ n) : (0 ≤ (nrmP p).1 ∧ (nrmP p).1 ≤ n) ∧ 0 ≤ (nrmP p).2 ∧ (nrmP p).2 ≤ n := by
  unfold nrmP
  dsimp only
  split <;> split <;> omega
theorem any_false {α : Type} (f : α → Bool) (l : List α) (h : ∀ x ∈ l, f x = false) (P : D → Prop) (k : P (.bl false)) : anyD [.lst (l.map fun x => .bl (f x))] P :=
  any_bls f l P (by
    rw [List.any_eq_false.mpr fun x hx => by rw [h x hx]; decide]
    exact k)
theorem p_lanes_in (g : TreeOk R) (q : Q (psD (sortP (R.map nrmP)))) : fs_lanes_in [psD R] Q := by
  have few := g.few
  refine sq_if (δ := [.dat (psD R), .no, .no, .no, .no, .no, .no]) (b := false) (ev_or (b := false) (c := false) (ev_not (b := true) (ev_tst (ee_call (ds := [psD R]) (ea_cons (v_at rfl) ea_nil) fun P k => p_is_list k))) fun _ => ev_tst (ee_op (x := .int (R.length : Nat)) (y := .int 28) (ee_cb (xs := [psD R]) (ea_cons (v_at rfl) ea_nil) len_ps) (ee_op (x := .int 7) (y := .int 4) (fun P k => k) (fun P k => k) fun P k => ⟨cmul_small (by decide) (by decide), k⟩) fun P k => by
    show P (.bl (decide ((28 : Int) < (R.length : Nat))))
    rw [decide_eq_false (by omega)]
    exact k)) (fun z => nomatch z) fun _ => sq_next ?_
  have e1 : EvE (dLc (dItL (dVar 0)) (gNm 4) dYes (dCall fs_lane_in [] (dCons (dVar 4) dNil)) [4]) [.dat (psD R), .no, .no, .no, .no, .no, .no] (.lst (R.map fun p => pairD (nrmP p))) :=
    ee_lc1 pairD (fun p => pairD (nrmP p)) R (ei_lst (v_at rfl)) rfl (by omega) fun p hp => ⟨[.dat (psD R), .no, .no, .no, .dat (pairD p), .no, .no], fun P k => k, rfl, fun P k => k, fun _ => ee_call (ds := [pairD p]) (ea_cons (v_at rfl) ea_nil) fun P k => by
      obtain ⟨⟨h1, h2⟩, h3⟩ := g.pr p hp
      exact p_lane_in h1.1 h2.1 h3 k⟩
  have e0 : D.lst (R.map fun p => pairD (nrmP p)) = psD (R.map nrmP) := by
    unfold psD
    rw [List.map_map]
    rfl
  rw [e0] at e1
  refine sq_set (i := 1) e1 ⟨_, rfl⟩ ?_
  have fl : (R.map nrmP).length = R.length := List.length_map ..
  have fb : ∀ p ∈ R.map nrmP, (0 ≤ p.1 ∧ p.1 ≤ ((R.map nrmP).length : Int)) ∧ 0 ≤ p.2 ∧ p.2 ≤ ((R.map nrmP).length : Int) := fun p hp => by
    obtain ⟨q, hq, rfl⟩ := List.mem_map.mp hp
    rw [fl]
    exact nrm_in (g.pr q hq).1
  have nd := g.nd
  have et : tT (R.map nrmP) = tT R := tT_nrm R
  have tl := tT_len R
  generalize hF : R.map nrmP = F at *
  have e2 : EvE (dLc (dItL (dVar 1)) (gNm 5) dYes (dOp cGt (dOp ixOp (dVar 5) (dC (.int 1))) (dCB lenD (dCons (dVar 1) dNil))) [5]) [.dat (psD R), .dat (psD F), .no, .no, .no, .no, .no] (.lst (F.map fun p => .bl (decide ((F.length : Int) < p.2)))) :=
    ee_lc1 pairD (fun p => .bl (decide ((F.length : Int) < p.2))) F (ei_lst (v_at rfl)) rfl (by omega) fun p hp => ⟨[.dat (psD R), .dat (psD F), .no, .no, .no, .dat (pairD p), .no], fun P k => k, rfl, fun P k => k, fun _ => ee_op (x := .int p.2) (y := .int (F.length : Nat)) (snd_at (v_at rfl)) (ee_cb (xs := [psD F]) (ea_cons (v_at rfl) ea_nil) len_ps) fun P k => k⟩
  refine sq_if (δ := [.dat (psD R), .dat (psD F), .no, .no, .no, .no, .no]) (b := false) (ev_or (b := false) (c := false) (ev_tst (ee_op (x := .non) (y := psD F) (fun P k => k) (v_at rfl) fun P k => ⟨⟨(Nc.non (n := 0)).ok, (nc_pairs F).ok⟩, by rw [pairs_nonon]; exact k⟩)) fun _ => ev_or (b := false) (c := false) (ev_tst (ee_op (x := .int (F.length : Nat)) (y := .int (F.length : Nat)) (len_set rfl nd (by omega)) (ee_cb (xs := [psD F]) (ea_cons (v_at rfl) ea_nil) len_ps) fun P k => ne_int _ _ P (by rw [beq_self_eq_true]; exact k))) fun _ => ev_tst (ee_cb (xs := [.lst (F.map fun p => .bl (decide ((F.length : Int) < p.2)))]) (ea_cons e2 ea_nil) (any_false _ _ fun p hp => by
    have := (fb p hp).2.2
    exact decide_eq_false (by omega)))) (fun z => nomatch z) fun _ => sq_next ?_
  refine sq_set (i := 2) (d := .lst ((tT R).map intsD)) (ee_call (ds := [psD F]) (ea_cons (v_at rfl) ea_nil) fun P k => p_ties_of fb (by omega) (by rw [et]; exact k)) ⟨_, rfl⟩ ?_
  have g1 : ∀ row : List Int, EvE (dCB lenD (dCons (dVar 6) dNil)) [.dat (psD R), .dat (psD F), .dat (.lst ((tT R).map intsD)), .no, .no, .no, .dat (intsD row)] (.int (row.length : Nat)) := fun row => ee_cb (xs := [intsD row]) (ea_cons (v_at rfl) ea_nil) len_ints
  have e3 : EvE (dLc (dItL (dVar 2)) (gNm 6) (dTst (dOp cGt (dCB lenD (dCons (dVar 6) dNil)) (dC (.int 1)))) (dVar 6) [6]) [.dat (psD R), .dat (psD F), .dat (.lst ((tT R).map intsD)), .no, .no, .no, .no] (.lst (((tT R).filter fun row => decide (1 < row.length)).map intsD)) :=
    ee_lc intsD (fun row => decide (1 < row.length)) intsD (tT R) (ei_lst (v_at rfl)) rfl (by omega) fun row _ => ⟨[.dat (psD R), .dat (psD F), .dat (.lst ((tT R).map intsD)), .no, .no, .no, .dat (intsD row)], fun P k => k, rfl, ev_tst (ee_op (x := .int (row.length : Nat)) (y := .int 1) (g1 row) (fun P k => k) fun P k => by
      have e : decide ((1 : Int) < (row.length : Nat)) = decide (1 < row.length) := by
        rw [decide_eq_decide]
        omega
      show P (.bl (decide ((1 : Int) < (row.length : Nat))))
      rw [e]
      exact k), fun _ => v_at rfl⟩
  refine sq_set (i := 3) e3 ⟨_, rfl⟩ ?_
  have y1 := g.y1
  have y7 := g.y7
  generalize (tT R).filter (fun row => decide (1 < row.length)) = ys at *
  have e4 : EvE (dLc (dItL (dVar 2)) (gNm 6) dYes (dOp cGt (dCB lenD (dCons (dVar 6) dNil)) (dC (.int 4))) [6]) [.dat (psD R), .dat (psD F), .dat (.lst ((tT R).map intsD)), .dat (.lst (ys.map intsD)), .no, .no, .no] (.lst ((tT R).map fun row => .bl (decide ((4 : Int) < (row.length : Nat))))) :=
    ee_lc1 intsD (fun row => .bl (decide ((4 : Int) < (row.length : Nat)))) (tT R) (ei_lst (v_at rfl)) rfl (by omega) fun row _ => ⟨[.dat (psD R), .dat (psD F), .dat (.lst ((tT R).map intsD)), .dat (.lst (ys.map intsD)), .no, .no, .dat (intsD row)], fun P k => k, rfl, fun P k => k, fun _ => ee_op (x := .int (row.length : Nat)) (y := .int 4) (ee_cb (xs := [intsD row]) (ea_cons (v_at rfl) ea_nil) len_ints) (fun P k => k) fun P k => k⟩
  refine sq_if (δ := [.dat (psD R), .dat (psD F), .dat (.lst ((tT R).map intsD)), .dat (.lst (ys.map intsD)), .no, .no, .no]) (b := false) (ev_or (b := false) (c := false) (ev_not (b := true) (ev_tst (chain_le (x := 1) (y := (ys.length : Nat)) (z := 7) (fun P k => k) (ee_cb (xs := [.lst (ys.map intsD)]) (ea_cons (v_at rfl) ea_nil) len_lst) (fun P k => k) (by omega) (by omega)))) fun _ => ev_or (b := false) (c := false) (ev_tst (ee_cb (xs := [.lst ((tT R).map fun row => .bl (decide ((4 : Int) < (row.length : Nat))))]) (ea_cons e4 ea_nil) (any_false _ _ fun row hr => by
    obtain ⟨v, hv⟩ := List.mem_iff_getElem?.mp hr
    obtain ⟨v1, rfl⟩ := tT_get hv
    have := g.r4 v v1
    rw [sortI_len]
    exact decide_eq_false (by omega)))) fun _ => ev_not (b := true) (ev_tst (ee_call (ds := [.lst ((tT R).map intsD)]) (ea_cons (v_at rfl) ea_nil) fun P k => p_is_whole (by omega) (by omega) g.rows g.wh k))) (fun z => nomatch z) fun _ => sq_next ?_
  refine st_ret (δ := [.dat (psD R), .dat (psD F), .dat (.lst ((tT R).map intsD)), .dat (.lst (ys.map intsD)), .no, .no, .no]) (d := psD (sortP F)) (ee_cb (xs := [psD F]) (ea_cons (v_at rfl) ea_nil) fun P k => ⟨sok_P F (by omega), by rw [sortD_P]; exact k⟩) q
theorem fldS_by {k i n : Nat} {a : DTE} {E : DEnds} {δ : DS} (h : a δ fun d δ1 => match δ1[i]? with
  | some (.ins p k' ds) => (k' = k ∧ ds.length = n) ∧ E.nx (δ1.set i (.ins p k' (ds ++ [d])))
  | _ => False) : dFldS k i n a E δ := h
theorem p_Country_init {Q : List D → Prop} (g : TreeOk R) (q : ∀ (c0 : D) (aws : List D), c0.old = true → D.olds aws = true → Q [c0, .lst ((tT R).map intsD), .lst aws]) : fs_Country_init [psD R] Q := by
  intro p
  have few := g.few
  have sp : (sortP (R.map nrmP)).Perm (R.map nrmP) := srt_perm
  have fl : (R.map nrmP).length = R.length := List.length_map ..
  have sl := sp.length_eq
  have fb : ∀ p ∈ sortP (R.map nrmP), (0 ≤ p.1 ∧ p.1 ≤ ((sortP (R.map nrmP)).length : Int)) ∧ 0 ≤ p.2 ∧ p.2 ≤ ((sortP (R.map nrmP)).length : Int) := fun p hp => by
    obtain ⟨q, hq, rfl⟩ := List.mem_map.mp (sp.mem_iff.mp hp)
    rw [sl, fl]
    exact nrm_in (g.pr q hq).1
  have et : tT (sortP (R.map nrmP)) = tT R := (tT_perm sp).trans (tT_nrm R)
  have tl := tT_len R
  refine sq_set (δ := [.ins p 0 [], .dat (psD R), .no, .no]) (i := 2) (d := psD (sortP (R.map nrmP))) (ee_call (ds := [psD R]) (ea_cons (v_at (i := 1) rfl) ea_nil) fun P k => p_lanes_in g k) ⟨_, rfl⟩ ?_
  generalize sortP (R.map nrmP) = S at *
  refine sq_if (δ := [.ins p 0 [], .dat (psD R), .dat (psD S), .no]) (b := false) (ev_tst fun P k => k) (fun z => nomatch z) fun _ => sq_next ?_
  refine sq_fldS (i := 0) (d := psD S) (v_at (i := 2) rfl) rfl rfl ?_
  refine sq_fldS (δ := [.ins p 0 [psD S], .dat (psD R), .dat (psD S), .no]) (i := 0) (d := .lst ((tT R).map intsD)) (ee_call (ds := [psD S]) (ea_cons (v_at (i := 2) rfl) ea_nil) fun P k => p_ties_of fb (by omega) (by rw [et]; exact k)) rfl rfl ?_
  refine fldS_by (δ := [.ins p 0 [psD S, .lst ((tT R).map intsD)], .dat (psD R), .dat (psD S), .no]) (lc_any natD (fun d => d.old = true) (List.range' 0 (R.length + 1)) (fun P k => ?_) rfl (by rw [List.length_range']; omega) (fun x hx K K' k => ?_) fun es he => ?_)
  · refine (ea_cons (x := natD (R.length + 1)) (ee_op (x := .int (S.length : Nat)) (y := .int 1) (ee_cb (xs := [psD S]) (ea_cons (v_at (i := 2) rfl) ea_nil) len_ps) (fun P k => k) fun P k => by
      rw [sl, fl]
      exact k) ea_nil) _ ⟨by omega, ?_⟩
    rw [Int.toNat_natCast, show (0 : Int) = ((0 : Nat) : Int) from rfl, rg_nat]
    exact k
  · have xl : x < (tT R).length := by
      have := (List.mem_range'_1.mp hx).2
      omega
    show dCall fs_ahead_of [] (dCons (dFldV 0 0 1) (dCons (dVar 3) dNil)) [.ins p 0 [psD S, .lst ((tT R).map intsD)], .dat (psD R), .dat (psD S), .dat (natD x)] _
    refine (ea_cons (x := .lst ((tT R).map intsD)) (ee_fldI (i := 0) rfl rfl) (ea_cons (x := natD x) (v_at (i := 3) rfl) ea_nil)) _ ?_
    exact p_ahead_of (by omega) g.rows xl fun as => ⟨rfl, k _ (olds_of (fun o => by cases o <;> rfl) as)⟩
  · refine ⟨⟨rfl, rfl⟩, _, rfl, rfl, q _ _ (olds_of (fun p => rfl) S) ?_⟩
    rw [olds_all, List.all_eq_true]
    exact he
end
end K26
set_option Elab.async false
set_option linter.all false
set_option maxRecDepth 100000
set_option maxHeartbeats 400000
namespace K26
open PySem PySem.Spec PyProof.Rows L2
/-! ## the law's own def gives True -/
section
variable {δ δ1 rest : DS} {p : Addr} {f : DSp} {l : DTA} {A B : DTE} {u : DTS} {E : DEnds}
theorem cp_any {S : List D → Prop} {P : D → DS → Prop} (hp : δ = .pot p none :: rest) (hl : ∀ P' : List D → DS → Prop, (∀ ds, S ds → P' ds δ) → l δ P') (h : ∀ ds, S ds → f ds fun d => P d δ) : dCallP 0 f l δ P := by
  subst hp
  exact hl _ fun ds s => h ds s
theorem sq_par3_by {i j k : Nat} (h : A δ fun d δ1 => B δ1 fun e δ2 => putS i (.dat d) δ2 fun δ4 => putS j (.dat e) δ4 fun δ5 => putS k (.own []) δ5 (u E)) : dSeq (dPar3 i j k A B (dOwnL dNil)) u E δ := h
theorem sq_par_by {i j : Nat} (h : A δ fun d δ1 => B δ1 fun e δ2 => putS i (.dat d) δ2 fun δ3 => putS j (.dat e) δ3 (u E)) : dSeq (dPar i j (dDat A) (dDat B)) u E δ := h
theorem mk_by {k : Nat} {F : List D → (List D → Prop) → Prop} {ds : List D} {P : D → DS → Prop} (ha : ∀ P : List D → DS → Prop, P ds δ1 → l δ P) (h : F ds fun es => P (.obj k es) δ1) : dMake k F l δ P := ha _ h
theorem da_one {X : DTE} {P : List D → DS → Prop} (h : X δ fun x δ1 => P [x] δ1) : dCons X dNil δ P := h
end
section
variable {R : List (Int × Int)} {v : Nat}
structure YardF (R : List (Int × Int)) (v : Nat) (r : List Int) : Prop where
  row : (tT R)[v]? = some r
  two : 1 < r.length
  few : r.length ≤ 4
  nd : r.Nodup
  pl : ∀ x ∈ r, 0 ≤ x ∧ x < ((tT R).length : Nat)
theorem yard_f (g : TreeOk R) (hv : v ∈ ysL R) : YardF R v (besL R (v : Nat)) := by
  obtain ⟨h1, h2⟩ := List.mem_filter.mp hv
  have vl : v ≤ R.length := by
    have := (List.mem_range'_1.mp h1).2
    omega
  have e := bes_eq R v
  have hr := tT_at vl
  refine ⟨by rw [e]; exact hr, of_decide_eq_true h2, by rw [e, sortI_len]; exact g.r4 v vl, ?_, fun x hx => ?_⟩
  · rw [e]
    exact (sortI_perm _).nodup_iff.mpr (g.rn v)
  · rw [e] at hx
    exact g.rows _ (List.mem_of_getElem? hr) x hx
theorem pairs_ne {r : List Int} (nd : r.Nodup) (h : 1 < r.length) : pairsOf r ≠ [] := by
  match r, h with
  | x :: y :: l, _ =>
    have hxy : y ≠ x := fun z => (List.nodup_cons.mp nd).1 (by rw [z]; exact List.mem_cons_self)
    intro z
    have : (x, y) ∈ pairsOf (x :: y :: l) := List.mem_flatMap.mpr ⟨x, List.mem_cons_self, List.mem_map.mpr ⟨y, List.mem_filter.mpr ⟨by simp, by rw [beq_eq_false_iff_ne.mpr hxy]; rfl⟩, rfl⟩⟩
    rw [z] at this
    cases this
theorem flatMap_le {α β : Type} {f : α → List β} {n : Nat} : ∀ {l : List α}, (∀ x ∈ l, (f x).length ≤ n) → (l.flatMap f).length ≤ l.length * n
  | [], _ => Nat.zero_le _
  | x :: l, h => by
    have h1 := h x List.mem_cons_self
    have h2 := flatMap_le (f := f) fun y hy => h y (List.mem_cons_of_mem _ hy)
    rw [List.flatMap_cons, List.length_append, List.length_cons, Nat.succ_mul]
    omega
theorem ix3 {n : Nat} (h2 : 1 < n) (h4 : n ≤ 4) (P : D → Prop) (k : P (natD (6 - n))) : ixOp (.lst [.int 4, .int 3, .int 2]) (.int ((n : Nat) - 2)) P := by
  have h : n = 2 ∨ n = 3 ∨ n = 4 := by omega
  rcases h with h | h | h <;> subst h
  · exact ⟨_, rfl, k⟩
  · exact ⟨_, rfl, k⟩
  · exact ⟨_, rfl, k⟩
/-- none is towards two neighbours -/
theorem std_apart {bk : List Alt} {r : List Int} {s t : Int} {x : List Row} (h1 : x ∈ std bk (tgt r s)) (h2 : x ∈ std bk (tgt r t)) : s = t := by
  cases x with
  | nil => exact absurd rfl (std_ne h1)
  | cons a x =>
    have e1 := (tgt_mem ((std_mem h1).1.mem a List.mem_cons_self)).1
    have e2 := (tgt_mem ((std_mem h2).1.mem a List.mem_cons_self)).1
    rw [← e1, e2]
def mst (R : List (Int × Int)) (v : Nat) : Nat := 6 - (besL R (v : Nat)).length
abbrev S20 (p : Addr) (s1 s2 s3 s4 s5 s6 s7 s8 s9 s10 s11 s12 s13 : Sl) : DS := [.pot p none, s1, s2, s3, s4, s5, s6, s7, s8, s9, s10, s11, s12, s13, .no, .no, .no, .no, .no, .no]
theorem book_by {p : Addr} {s2 s3 s4 : Sl} {P : D → DS → Prop} (g : TreeOk R) (hv : v ∈ ysL R) (k : ∀ bk : List Alt, BkOk (besL R (v : Nat)) (mst R v) bk → P (bookD bk) (S20 p (.dat (psD R)) s2 s3 s4 (.dat (natD v)) .no .no .no .no .no .no .no .no)) :
    dCallP 0 fs_law_book (dCons (dCall fs_law_beside [] (dCons (dVar 1) (dCons (dVar 5) dNil))) (dCons (dOp ixOp (dLst (dCons (dC (.int 4)) (dCons (dC (.int 3)) (dCons (dC (.int 2)) dNil)))) (dOp iSub (dCB lenD (dCons (dCall fs_law_beside [] (dCons (dVar 1) (dCons (dVar 5) dNil))) dNil)) (dC (.int 2)))) dNil)) (S20 p (.dat (psD R)) s2 s3 s4 (.dat (natD v)) .no .no .no .no .no .no .no .no) P := by
  have y := yard_f g hv
  have few := g.few
  have tl := tT_len R
  have y2 := y.two
  have y4 := y.few
  have e1 : EvE (dCall fs_law_beside [] (dCons (dVar 1) (dCons (dVar 5) dNil))) (S20 p (.dat (psD R)) s2 s3 s4 (.dat (natD v)) .no .no .no .no .no .no .no .no) (intsD (besL R (v : Nat))) :=
    ee_call (ds := [psD R, natD v]) (ea_cons (v_at (i := 1) rfl) (ea_cons (v_at (i := 5) rfl) ea_nil)) fun P k => p_law_beside (by omega) k
  refine cp_by (ds := [intsD (besL R (v : Nat)), natD (mst R v)]) rfl (ea_cons e1 (ea_cons (ee_op (x := .lst [.int 4, .int 3, .int 2]) (y := .int (((besL R (v : Nat)).length : Nat) - 2)) (ee_lst (ea_cons (fun P k => k) (ea_cons (fun P k => k) (ea_cons (fun P k => k) ea_nil)))) (ee_op (x := .int ((besL R (v : Nat)).length : Nat)) (y := .int 2) (ee_cb (xs := [intsD (besL R (v : Nat))]) (ea_cons e1 ea_nil) len_ints) (fun P k => k) fun P k => k) (ix3 y2 y4)) ea_nil)) ?_
  exact p_law_book (by unfold mst; omega) (by unfold mst; omega) (pairs_ne y.nd y2) (by omega) k
end
end K26
set_option Elab.async false
set_option linter.all false
set_option maxRecDepth 100000
set_option maxHeartbeats 400000
namespace K26
open PySem PySem.Spec PyProof.Rows L2
section
variable {Q : D → Prop} {R : List (Int × Int)} {c0 aw : D} {T : List (List Int)} {bks : List (List Alt)} {v j : Nat} {r : List Int} {bk : List Alt} {p : Addr}
theorem old_ps (R : List (Int × Int)) : (psD R).old = true := olds_of (fun _ => rfl) R
theorem old_nats (l : List Nat) : (D.lst (l.map natD)).old = true := olds_of (fun _ => rfl) l
theorem old_books (l : List (List Alt)) : (D.lst (l.map bookD)).old = true := olds_of old_book l
theorem old_c (h1 : c0.old = true) (h2 : aw.old = true) : (cD c0 T aw).old = true := by
  show (c0.old && (D.olds (T.map intsD) && (aw.old && true))) = true
  rw [h1, h2, olds_of old_ints]
  rfl
theorem old_w (h1 : c0.old = true) (h2 : aw.old = true) : (wC c0 T aw bks).old = true := by
  show ((cD c0 T aw).old && ((D.lst (bks.map bookD)).old && true)) = true
  rw [old_c h1 h2, old_books]
  rfl
theorem right_loop {la ya bo at' : D} (y : YardOk T bks v j r bk) (ym : YardMore T r bk) (o1 : la.old = true) (o2 : (cD c0 T aw).old = true) (o3 : ya.old = true) (o4 : bo.old = true) (o5 : (wC c0 T aw bks).old = true) (o6 : at'.old = true) (h : Q (.bl true)) :
    dSeq (dFor (dItL (dVar 9)) (gNm 11) m_turn) (dRet (dC (.bl true))) (potE p Q) (S20 p (.dat la) (.dat (cD c0 T aw)) (.dat ya) (.dat bo) (.dat (natD v)) (.dat (wC c0 T aw bks)) (.dat at') (.dat (bookD bk)) (.dat (intsD r)) (.dat (.lst [])) .no .no .no) := by
  refine sq_for D.int r (fun rest δ => ∃ (dn : List Int) (s11 s12 s13 : Sl), r = dn ++ rest ∧ plainS s12 = true ∧ plainS s13 = true ∧ δ = S20 p (.dat la) (.dat (cD c0 T aw)) (.dat ya) (.dat bo) (.dat (natD v)) (.dat (wC c0 T aw bks)) (.dat at') (.dat (bookD bk)) (.dat (intsD r)) (.dat (.lst ((dn.flatMap fun t => LL bk (tgt r t)).map loadL))) s11 s12 s13) (ei_lst (a := dVar 9) (v_at (i := 9) rfl)) ⟨[], .no, .no, .no, rfl, rfl, rfl, rfl⟩ ?_ ?_
  · rintro t rest δ ⟨dn, s11, s12, s13, er, p12, p13, rfl⟩
    have ht : t ∈ r := by
      rw [er]
      simp
    have sub : ∀ s ∈ dn, s ∈ r := fun s hs => by
      rw [er]
      exact List.mem_append_left _ hs
    have few := y.few
    have dl : dn.length ≤ 4 := by
      have := congrArg List.length er
      rw [List.length_append] at this
      omega
    have fl := flatMap_le (f := fun t => LL bk (tgt r t)) (n := 1024) (l := dn) fun s hs => by
      have := std_len (y.caps (sub s hs))
      rw [LL_perm.length_eq]
      omega
    refine ⟨stT p la ya bo at' c0 aw T bks v bk r (dn.flatMap fun t => LL bk (tgt r t)) t s12 s13 .no .no .no .no, fun P k => k, ?_⟩
    refine p_turn y ym ht o1 o2 o3 o4 o5 o6 (dn.flatMap fun t => LL bk (tgt r t)) (fun x hx hs => ?_) (by omega) s12 s13 p12 p13 ⟨rest, rfl, dn ++ [t], .dat (.int t), .dat (.lst ((LL bk (tgt r t)).map loadL)), .dat (.lst ((HH bk (tgt r t)).map loadL)), ?_, olds_of old_load _, olds_of old_load _, ?_⟩
    · obtain ⟨s, hs1, hx1⟩ := List.mem_flatMap.mp hx
      have e := std_apart (LL_mem.mp hx1) hs
      have nd := y.nd
      rw [er] at nd
      exact (List.nodup_append.mp nd).2.2 s hs1 t List.mem_cons_self e
    · rw [List.append_assoc]
      exact er
    · rw [List.flatMap_append, List.flatMap_cons, List.flatMap_nil, List.append_nil]
  · rintro δ ⟨dn, s11, s12, s13, er, p12, p13, rfl⟩
    exact st_ret (d := .bl true) (fun P k => k) ⟨⟨none, rfl, fun a b z => nomatch z⟩, h⟩
abbrev m_web : DTS := (dSeq (dPar 6 7 (dDat (dMake 1 fs_Web_init (dCons (dVar 2) (dCons (dVar 4) dNil)))) (dDat (dCallP 0 fs_law_draw (dCons (dCB lenD (dCons (dVar 3) dNil)) dNil)))) (dSeq (dAsg (dTup (dCons (dOp ixOp (dVar 3) (dVar 7)) (dCons (dOp ixOp (dVar 4) (dVar 7)) (dCons (dCall fs_law_beside [] (dCons (dVar 1) (dCons (dOp ixOp (dVar 3) (dVar 7)) dNil))) (dCons (dLst dNil) dNil))))) (gTp (gCn (gNm 5) (gCn (gNm 8) (gCn (gNm 9) (gCn (gNm 10) gNl)))))) (dSeq (dFor (dItL (dVar 9)) (gNm 11) m_turn) (dRet (dC (.bl true))))))
theorem right_web {s5 : Sl} (g : TreeOk R) (oc : c0.old = true) (oa : aw.old = true) (bl : bks.length = (ysL R).length) (hb : ∀ q ∈ (ysL R).zip bks, BkOk (besL R (q.1 : Nat)) (mst R q.1) q.2) (h : Q (.bl true)) :
    m_web (potE p Q) (S20 p (.dat (psD R)) (.dat (cD c0 (tT R) aw)) (.dat (.lst ((ysL R).map natD))) (.own (bks.map bookD)) s5 .no .no .no .no .no .no .no .no) := by
  have few := g.few
  have tl := tT_len R
  have yl := ys_len R
  have y1 := g.y1
  have y7 := g.y7
  rw [← yl] at y1 y7
  have ye := ys_eq R
  refine sq_par_by (mk_by (ds := [cD c0 (tT R) aw, .lst (bks.map bookD)]) (δ1 := S20 p (.dat (psD R)) (.dat (cD c0 (tT R) aw)) (.dat (.lst ((ysL R).map natD))) (.dat (.lst (bks.map bookD))) s5 .no .no .no .no .no .no .no .no) (fun P k => k) (p_Web_init (by omega) (by rw [← ye]; exact bl) (fun q hq => ?_) ?_))
  · rw [← ye] at hq
    have y := yard_f g (List.of_mem_zip hq).1
    exact ⟨besL R (q.1 : Nat), mst R q.1, y.row, by have := y.few; omega, fun x hx => (y.pl x hx).1, by unfold mst; have := y.two; omega, hb q hq⟩
  · refine (draw_at (n := (ysL R).length) rfl (ee_cb (xs := [.lst ((ysL R).map natD)]) (ea_cons (v_at (i := 3) rfl) ea_nil) len_lst) (by omega) (by omega) fun k hk => ?_ : dCallP 0 fs_law_draw (dCons (dCB lenD (dCons (dVar 3) dNil)) dNil) (S20 p (.dat (psD R)) (.dat (cD c0 (tT R) aw)) (.dat (.lst ((ysL R).map natD))) (.dat (.lst (bks.map bookD))) s5 .no .no .no .no .no .no .no .no) _)
    refine put_by (i := 6) ⟨_, rfl⟩ (put_by (i := 7) ⟨_, rfl⟩ ?_)
    have kb : k < bks.length := by omega
    have hv := List.getElem_mem hk
    have hz : ((ysL R)[k], bks[k]) ∈ (ysL R).zip bks := List.mem_iff_getElem.mpr ⟨k, by rw [List.length_zip]; omega, List.getElem_zip⟩
    have B := hb _ hz
    have e3 : (ysL R)[k]? = some (ysL R)[k] := List.getElem?_eq_getElem hk
    have e4 : bks[k]? = some bks[k] := List.getElem?_eq_getElem kb
    dsimp only at B
    generalize (ysL R)[k] = v at *
    generalize bks[k] = bk at *
    have y := yard_f g hv
    have i3 : EvE (dOp ixOp (dVar 3) (dVar 7)) (S20 p (.dat (psD R)) (.dat (cD c0 (tT R) aw)) (.dat (.lst ((ysL R).map natD))) (.dat (.lst (bks.map bookD))) s5 (.dat (wC c0 (tT R) aw bks)) (.dat (natD k)) .no .no .no .no .no .no) (natD v) :=
      ee_op (x := .lst ((ysL R).map natD)) (y := natD k) (v_at (i := 3) rfl) (v_at (i := 7) rfl) fun P q => ⟨_, atI_nat (by rw [List.getElem?_map, e3]; rfl), q⟩
    have i4 : EvE (dOp ixOp (dVar 4) (dVar 7)) (S20 p (.dat (psD R)) (.dat (cD c0 (tT R) aw)) (.dat (.lst ((ysL R).map natD))) (.dat (.lst (bks.map bookD))) s5 (.dat (wC c0 (tT R) aw bks)) (.dat (natD k)) .no .no .no .no .no .no) (bookD bk) :=
      ee_op (x := .lst (bks.map bookD)) (y := natD k) (v_at (i := 4) rfl) (v_at (i := 7) rfl) fun P q => ⟨_, atI_nat (by rw [List.getElem?_map, e4]; rfl), q⟩
    refine sq_asg (δ := S20 p (.dat (psD R)) (.dat (cD c0 (tT R) aw)) (.dat (.lst ((ysL R).map natD))) (.dat (.lst (bks.map bookD))) s5 (.dat (wC c0 (tT R) aw bks)) (.dat (natD k)) .no .no .no .no .no .no) (d := .tup [natD v, bookD bk, intsD (besL R (v : Nat)), .lst []]) (δ2 := S20 p (.dat (psD R)) (.dat (cD c0 (tT R) aw)) (.dat (.lst ((ysL R).map natD))) (.dat (.lst (bks.map bookD))) (.dat (natD v)) (.dat (wC c0 (tT R) aw bks)) (.dat (natD k)) (.dat (bookD bk)) (.dat (intsD (besL R (v : Nat)))) (.dat (.lst [])) .no .no .no)
      (ee_tup (ea_cons i3 (ea_cons i4 (ea_cons (ee_call (ds := [psD R, natD v]) (ea_cons (v_at (i := 1) rfl) (ea_cons i3 ea_nil)) fun P k => p_law_beside (by omega) k) (ea_cons (ee_lst ea_nil) ea_nil))))) (fun P q => q) ?_
    refine right_loop (j := k) ⟨by omega, y.row, y.two, y.few, y.nd, by rw [← ye]; exact e3, e4, y.pl, B.bs, fun l s => ?_⟩ ⟨fun x hx => ?_, fun q hq => B.one _ _⟩ (old_ps R) (old_c oc oa) (old_nats _) (old_books _) (old_w oc oa) rfl h
    · have := B.cap s
      unfold mst at this
      have := y.two
      omega
    · have := (y.pl x hx).2
      omega
theorem right_true (Q : D → Prop) (h : Q (.bl true)) : fs_law_right [] Q := by
  intro p i j po
  refine sq_setc (δ := S20 p .no .no .no .no .no .no .no .no .no .no .no .no .no) (cp_any rfl (S := fun ds => ∃ (m : Nat) (L : List (Int × Int)), Drawn m L ∧ ds = [psD L]) (fun P' hP => da_one ?_) fun ds ⟨m, L, dr, e⟩ => ?_)
  · refine cp_any rfl (S := fun ds => ∃ m : Nat, 1 ≤ m ∧ m ≤ 3 ∧ ds = [natD m]) (fun P'' hP2 => da_one ?_) fun ds ⟨m, m1, m3, e⟩ => ?_
    · refine op_any2 (x := natD 1) (fun P k => k) (draw_at (n := 3) rfl (fun P k => k) (by decide) (by decide) fun k hk => ?_)
      exact iadd_by (hP2 _ ⟨1 + k, by omega, by omega, rfl⟩)
    · subst e
      exact p_law_lanes m1 m3 fun L dr => hP _ ⟨m, L, dr, rfl⟩
  · subst e
    refine p_law_renumbered (by have := dr.few; omega) dr.ch fun ns hn => ?_
    refine put_by (i := 1) ⟨_, rfl⟩ ?_
    have g := dr.tree hn
    generalize L.map (ren ns) = R at g
    have few := g.few
    refine sq_par3_by (δ := S20 p (.dat (psD R)) .no .no .no .no .no .no .no .no .no .no .no .no) (mk_by (ds := [psD R]) (ea_cons (v_at (i := 1) rfl) ea_nil) (p_Country_init g fun c0 aws oc oa => ?_))
    refine (ee_call (ds := [psD R]) (ea_cons (v_at (i := 1) rfl) ea_nil) fun P k => p_law_yards (by omega) k : EvE (dCall fs_law_yards [] (dCons (dVar 1) dNil)) (S20 p (.dat (psD R)) .no .no .no .no .no .no .no .no .no .no .no .no) (.lst ((ysL R).map natD))) _ ?_
    refine put_by (i := 2) ⟨_, rfl⟩ (put_by (i := 3) ⟨_, rfl⟩ (put_by (i := 4) ⟨_, rfl⟩ ?_))
    have oa2 : (D.lst aws).old = true := oa
    generalize D.lst aws = aw at oa2
    refine sq_for (δ := S20 p (.dat (psD R)) (.dat (cD c0 (tT R) aw)) (.dat (.lst ((ysL R).map natD))) (.own []) .no .no .no .no .no .no .no .no .no) natD (ysL R) (fun rest δ => ∃ (dn : List Nat) (bks : List (List Alt)) (s5 : Sl), ysL R = dn ++ rest ∧ bks.length = dn.length ∧ (∀ q ∈ dn.zip bks, BkOk (besL R (q.1 : Nat)) (mst R q.1) q.2) ∧ δ = S20 p (.dat (psD R)) (.dat (cD c0 (tT R) aw)) (.dat (.lst ((ysL R).map natD))) (.own (bks.map bookD)) s5 .no .no .no .no .no .no .no .no) (ei_lst (a := dVar 3) (v_at (i := 3) rfl)) ⟨[], [], .no, rfl, rfl, (fun q hq => nomatch hq), rfl⟩ ?_ ?_
    · rintro v rest δ ⟨dn, bks, s5, er, bl, hb, rfl⟩
      have hv : v ∈ ysL R := by
        rw [er]
        simp
      have yl : bks.length < 1000 := by
        have h1 := List.length_filter_le (fun v => decide (1 < (besL R (v : Nat)).length)) (List.range' 0 (R.length + 1))
        have h2 := congrArg List.length er
        rw [List.length_append] at h2
        rw [List.length_range'] at h1
        unfold ysL at h2
        omega
      refine ⟨S20 p (.dat (psD R)) (.dat (cD c0 (tT R) aw)) (.dat (.lst ((ysL R).map natD))) (.own (bks.map bookD)) (.dat (natD v)) .no .no .no .no .no .no .no .no, fun P k => k, ?_⟩
      refine st_appG (i := 4) (S := fun d δ1 => ∃ bk : List Alt, BkOk (besL R (v : Nat)) (mst R v) bk ∧ d = bookD bk ∧ δ1 = S20 p (.dat (psD R)) (.dat (cD c0 (tT R) aw)) (.dat (.lst ((ysL R).map natD))) (.own (bks.map bookD)) (.dat (natD v)) .no .no .no .no .no .no .no .no) (fun P hP => book_by g hv fun bk B => hP _ _ ⟨bk, B, rfl, rfl⟩) ⟨_, rfl⟩ ?_
      rintro d δ1 ⟨bk, B, rfl, rfl⟩
      refine ⟨bks.map bookD, rfl, by rw [List.length_map]; omega, rest, rfl, dn ++ [v], bks ++ [bk], .dat (natD v), by rw [List.append_assoc]; exact er, by rw [List.length_append, List.length_append, bl]; rfl, fun q hq => ?_, by rw [List.map_append]; rfl⟩
      rw [List.zip_append bl.symm] at hq
      rcases List.mem_append.mp hq with k | k
      · exact hb q k
      · rw [List.mem_singleton.mp k]
        exact B
    · rintro δ ⟨dn, bks, s5, er, bl, hb, rfl⟩
      rw [List.append_nil] at er
      subst er
      exact right_web g oc oa2 bl hb h
end
end K26
set_option Elab.async false
set_option linter.all false
set_option maxRecDepth 100000
set_option maxHeartbeats 1000000
namespace K26
open PySem PySem.Spec PyProof.Rows L2
/-! ## the pot, the law -/
def spPot (K : PySem.W.Frag) : Sp := fun vs H Q _ => ∃ (a : Addr) (ns : List Int), vs = [.ref a, .int 0] ∧ SqL K H a (ns.map V.int) ∧ ∀ p i j, H p = none → PotOk i j → Q (.ref p) (upd H p (.lst [.int i, .int j]))
theorem pot_ok (x : Int) : PotOk (if x > 0 then x else 0) ((x * 0 + 0) % 2147483579 + 1) := by
  unfold PotOk
  refine ⟨by split <;> omega, by omega, by omega⟩
theorem pot_reads {K : PySem.W.Frag} {P : Program} {w : World} (vs : List V) (H : Hp) (Q : VK) (E : XK) (h : spPot K vs H Q E) : t_law_pot K P w { nx := fun _ H' => Q .non H', rt := Q } (L2.start N_law_pot vs) H := by
  obtain ⟨a, ns, rfl, hS, q⟩ := h
  have fin : ∀ c : Int, tRet (tLst (tCons (tCB rMax2 (tCons (tC (.int 0)) (tCons (tOp rSub (tVar 2) (tOp rPw (tC (.int 10)) (tC (.int 18)))) tNil))) (tCons (tOp rAdd (tOp rMod (tCB rInt1 (tCons (tOp rAdd (tOp rAdd (tOp rMul (tOp rMod (tCB rInt1 (tCons (tVar 2) tNil)) (tC (.int 2147483549))) (tC (.int 48271))) (tOp rMul (tC (.int 5681)) (tVar 1))) (tC (.int 291))) tNil)) (tC (.int 2147483579))) (tC (.int 1))) tNil))) { nx := fun _ H' => Q .non H', rt := Q } [some (.ref a), some (.int 0), some (.int c)] H := fun c => by
    have e1 : (0 : Int) < 2147483549 := by decide
    have e2 : (0 : Int) < 2147483579 := by decide
    have m1 := Int.emod_nonneg c (show (2147483549 : Int) ≠ 0 by decide)
    have m2 := Int.emod_lt_of_pos c e1
    refine ⟨.int c, rfl, 10, 18, rfl, rfl, ⟨by decide, by decide, by decide⟩, c, _, rfl, rfl, 0, _, rfl, .int c, rfl, .inl ⟨c, rfl, c, 2147483549, rfl, rfl, e1, _, 48271, rfl, rfl, .inl ⟨?_, ?_⟩, .int 0, rfl, 5681, 0, rfl, rfl, .inl ⟨by decide, by decide⟩, _, _, rfl, rfl, _, 291, rfl, rfl, .inl ⟨_, rfl, _, 2147483579, rfl, rfl, e2, _, 1, rfl, rfl, ?_, fun p hp => q p _ _ hp ⟨?_, ?_, ?_⟩⟩⟩⟩
    · exact Int.lt_of_lt_of_le (by decide) m1
    · exact Int.lt_trans m2 (by decide)
    · rw [sizeLine_eq]
      show 2 ≤ _
      omega
    · split <;> omega
    · have := Int.emod_nonneg (c % 2147483549 * 48271 + 5681 * 0 + 291) (show (2147483579 : Int) ≠ 0 by decide)
      omega
    · have := Int.emod_lt_of_pos (c % 2147483549 * 48271 + 5681 * 0 + 291) e2
      omega
  refine ⟨.int 0, rfl, .ref a, rfl, a, ns.map V.int, rfl, .inl hS, 0, _, rfl, rfl, _, rfl, ?_⟩
  cases ns with
  | nil =>
    refine iteF ?_
    exact ⟨.int 0, rfl, 191, 0, rfl, rfl, .inl ⟨by decide, by decide⟩, _, 261, rfl, rfl, fin _⟩
  | cons n r =>
    have e : decide ((0 : Int) < ((List.map V.int (n :: r)).length : Int)) = true := by
      rw [decide_eq_true_eq, List.map_cons, List.length_cons]
      omega
    rw [e]
    refine iteT ?_
    exact ⟨.ref a, rfl, .int 0, rfl, .inl ⟨a, _, 0, .int n, rfl, rfl, hS, atI_nat (j := 0) rfl, n, rfl, fin _⟩⟩
def t_law (K : PySem.W.Frag) : TS := tRet (tCall (qSp (gx K) 0 fs_law_right) [] E0 (tCons (tCall (spPot K) [] E0 (tCons (tVar 0) (tCons (tC (.int 0)) tNil))) tNil))
def spLaw (K : PySem.W.Frag) : Sp := fun vs H Q _ => ∃ (a : Addr) (ns : List Int), vs = [.ref a] ∧ SqL K H a (ns.map V.int) ∧ ∀ H', Q (.bl true) H'
theorem law_reads {K : PySem.W.Frag} (vs : List V) (H : Hp) (Q : VK) (E : XK) (h : spLaw K vs H Q E) : t_law K { nx := fun _ H' => Q .non H', rt := Q } (L2.start ["_law_script"] vs) H := by
  obtain ⟨a, ns, rfl, hS, q⟩ := h
  refine ⟨.ref a, rfl, a, ns, rfl, hS, fun p i j hp po => ?_⟩
  refine ⟨fun _ => True, fun _ => none, p, i, j, [], [], fun d => d = .bl true, rfl, rfl, fun _ _ => trivial, trivial, (fun _ _ z => nomatch (show (none : Option HO) = some _ from z)), rfl, upd_same, po, rfl, right_true _ rfl, fun d v i' j' B' H' _ _ _ r e => ?_⟩
  subst e
  have ev : v = .bl true := r
  subst ev
  exact q H'
section
variable {P : Program} {w : World} {K : PySem.W.Frag} {mg : Str → Option Value} {base : Heap}
theorem sc_law : FnScope ["_law_script"] ["_law_script"] (defScope s_law) := ⟨rfl, rfl, rfl, by decide +kernel, rfl, by decide +kernel, by decide +kernel⟩
theorem cal_law_pot (T : Tp K mg base) : C8.Cal P w K mg base 1 "_law_pot" (spPot K) [] := by
  obtain ⟨fd, F⟩ := T.c.def_ 47 (d := d_law_pot) rfl
  refine ⟨_, fd, ps_law_pot, [], F.ok sc_law_pot (fun vs H Q E h => ?_) (fun cdv A outer s H vs Q E hr h => ⟨t_law_pot K P w, PSs.nox (pw_law_pot T cdv A outer s H E hr), pot_reads vs H Q E h⟩), T.g_law_pot, F.kp, F.bindsN (fun _ _ _ _ _ _ us hl => match us, hl with | [_, _], _ => rfl), .nil⟩
  obtain ⟨a, ns, rfl, _⟩ := h
  rfl
theorem law_ok {f : Addr} {fd : FuncData} (T : Tp K mg base) (F : FunD K "law" "law" (defArgs s_law) (defBody s_law) (defScope s_law) [] [] f fd) : FnG P w K mg base 11 f fd ["_law_script"] (spLaw K) := by
  obtain ⟨fr, fdr, FR, gR, kR, bR⟩ := fg_law_right (P := P) (w := w) T
  refine fnG_by F sc_law fun cdv A outer st H vs Q E hg hr h => ⟨t_law K, PSs.nox ?_, law_reads vs H Q E h⟩
  refine pss_one (ps_ret (pe_callG FR hg hr rfl gR kR bR (fun vs H Q E h => ?_) (pa_cons (C8.pe_c (cal_law_pot T) hr (by decide) rfl (pa_cons (pv 0) (pa_cons pe_int pa_nil))) pa_nil)))
  exact pot_len rfl h
theorem tells {h : Heap} {fa : Addr} (kin : K.In h) (ns : h.Ns mainGlobals mg) (hm : mg ("law" : Str) = some (.ref fa)) (c : He.SaysD K26.fa fn K) (i : isBs K = true) :
    ∃ fd : FuncData, (∀ (s : Shared) (u : Value), BindsTo s fd ⟨[u], []⟩ [("_law_script", u)]) ∧ ∀ base : Heap, K.In base → base.Ns mainGlobals mg → FnG P w K mg base 11 fa fd ["_law_script"] (spLaw K) := by
  obtain ⟨fd, F⟩ := c.def_ 64 (d := d_law) rfl
  have T0 : Tp K mg h := ⟨c, i, kin, ns⟩
  have e := hm.symm.trans T0.g_law
  cases e
  have b := FunD.bindsA (ps := ["_law_script"]) F fun _ _ _ _ _ _ us hl => match us, hl with | [_], _ => rfl
  exact ⟨fd, fun s u => b s [u] rfl, fun base k1 k2 => law_ok ⟨c, i, k1, k2⟩ F⟩
end
end K26
open PySem PySem.W PySem.Calls PyProof.Rows
theorem PySem.Challenge.cw_lanekeepers_k26_whole_loads_towards_holds : PySem.Challenge.rw_lanekeepers_k26_whole_loads_towards.Holds := by
  w_on; o_law
  refine HandSHeadRun.head_any (r := OpenLaw.row PySem.Challenge.rw_lanekeepers_k26_whole_loads_towards) (q := view (OpenLaw.row PySem.Challenge.rw_lanekeepers_k26_whole_loads_towards).prog [88]) (H := K26.hk) (ob := K26.ob) (M := 8000) (loose := K26.loose) (d := HandSHeadRun.topDef (OpenLaw.row PySem.Challenge.rw_lanekeepers_k26_whole_loads_towards).prog 88) (kwd := []) K26.ob_eq
    (by kernel_rfl) (fun s => by kernel_rfl) K26.run (by kernel_rfl) (by kernel_rfl) (by kernel_rfl) (by rfl) (by first | assumption | decide +kernel) (by decide +kernel) ⟨rfl, rfl, rfl, rfl, rfl, by decide +kernel⟩ ?hw ?hc
  case hw => w_witness2
  case hc =>
    refine Att.attach_call (n := 63) rfl (by kernel_rfl) fun w st0 st mg mb fa o pm cd doc a vs ns G Y ho hd hcd hmg hobj hints hlen hgen => ?_
    obtain ⟨K, kin, c, i⟩ := Y
    have hm : mg ("law" : PySem.Str) = some (.ref fa) := by
      have e : (HandSHeadRun.topDef (OpenLaw.row PySem.Challenge.rw_lanekeepers_k26_whole_loads_towards).prog 88).name = ("law" : PySem.Str) := by kernel_rfl
      rw [← e]
      exact hmg
    obtain ⟨fd, hb, hF⟩ := K26.tells (P := (PySem.Challenge.rw_lanekeepers_k26_whole_loads_towards).prog) (w := w) kin G.T.g hm c i
    exact K26.callG kin G.T.g G.T.b G.T.builtins G.T.nolimit hgen hobj hints (Nat.le_trans hlen (by decide)) ⟨rfl, by decide, by decide⟩ hF hb fun H _ hS => ⟨a, ns, rfl, hS, fun _ => rfl⟩
