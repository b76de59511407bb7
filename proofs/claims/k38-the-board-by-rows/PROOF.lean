import PyProof.Rows.All
import Wide.All
import OpenK.AllK
import Wide.FinOn
import KE.KStateDown
import KE.KIsAll
import HandS.ForMost
import HandS.Exc
import HandS.TryOnly
import HandS.ExcOwn
import HandS.ExcIs
import HandS.ExcValue
import HandS.IsInst
import HandS.WordsExc
import HandS.Walk
import HandS.Codes
import HandS.Evl
import HandS.Defaults
import HandS.WideBits
import HandS.Head0
import HandS.Head1
import HandS.Head2
import HandS.HeadEnd
import HandS.HeadHook1
import HandS.HeadHook2
import PySem.Challenge.RW_earthward_k38_the_board_by_rows
import HandS.RaiseMore
set_option Elab.async false
set_option linter.all false
set_option maxRecDepth 100000
set_option maxHeartbeats 0
namespace K38
open PySem PySem.Spec PyProof.Rows L2
/-! ### the text by places -/
def top (i : Nat) : Stmt := PySem.Challenge.pw_earthward_k38_the_board_by_rows.main.body.getD i (.Pass ⟨0, 0, 0, 0⟩)
abbrev s_switch_of : Stmt := top 23
abbrev s_members : Stmt := top 25
abbrev s_shut_objects : Stmt := top 26
abbrev s_links : Stmt := top 27
abbrev s_joined : Stmt := top 28
abbrev s_live : Stmt := top 29
abbrev s_earthed : Stmt := top 30
abbrev s_safe : Stmt := top 31
abbrev s_loaded : Stmt := top 33
abbrev s_turned : Stmt := top 34
abbrev s_every_switch : Stmt := top 36
abbrev s_keeps_dead : Stmt := top 37
abbrev s_can_be_locked : Stmt := top 48
abbrev s_own_earths : Stmt := top 49
abbrev s_number_of : Stmt := top 63
abbrev s_count_told : Stmt := top 64
abbrev s_ends_of : Stmt := top 65
abbrev s_switch_told : Stmt := top 66
abbrev s_with_switch : Stmt := top 67
abbrev s_numbers_text : Stmt := top 72
abbrev s_place_told : Stmt := top 73
abbrev s_law_draw : Stmt := top 77
abbrev s_law_switch : Stmt := top 78
abbrev s_law_yard : Stmt := top 79
abbrev s_law_classes : Stmt := top 80
abbrev s_law_said : Stmt := top 81
abbrev s_law_deed : Stmt := top 82
abbrev s_law_due : Stmt := top 83
abbrev s_law_same : Stmt := top 84
abbrev s_law_numbers : Stmt := top 85
abbrev s_law_look : Stmt := top 86
abbrev s_law_numbered : Stmt := top 87
abbrev s_law_prepared : Stmt := top 88
abbrev s_law : Stmt := top 89
abbrev sSwitch_feeds : Stmt := inClass (top 18) 0
abbrev sSwitch_earths : Stmt := inClass (top 18) 1
abbrev sSwitch_joins : Stmt := inClass (top 18) 2
abbrev sSwitch_gentle : Stmt := inClass (top 18) 3
abbrev sFeed_init : Stmt := inClass (top 19) 0
abbrev sFeed_feeds : Stmt := inClass (top 19) 1
abbrev sEarth_init : Stmt := inClass (top 20) 0
abbrev sEarth_earths : Stmt := inClass (top 20) 1
abbrev sBreaker_init : Stmt := inClass (top 21) 0
abbrev sBreaker_joins : Stmt := inClass (top 21) 1
abbrev sSplitter_gentle : Stmt := inClass (top 22) 0
abbrev sBoard_init : Stmt := inClass (top 50) 0
abbrev sBoard_standing : Stmt := inClass (top 50) 1
abbrev sBoard_locked : Stmt := inClass (top 50) 2
abbrev sBoard_held : Stmt := inClass (top 50) 3
abbrev sBoard_need : Stmt := inClass (top 50) 5
abbrev sBoard_turn : Stmt := inClass (top 50) 6
abbrev sBoard_lock : Stmt := inClass (top 50) 7
abbrev sBoard_unlock : Stmt := inClass (top 50) 8
abbrev sBoard_permit : Stmt := inClass (top 50) 9
abbrev sBoard_give_back : Stmt := inClass (top 50) 10
abbrev sDesk_init : Stmt := inClass (top 75) 0
abbrev sDesk_say : Stmt := inClass (top 75) 1
abbrev sDesk_begun : Stmt := inClass (top 75) 2
abbrev sDesk_seen : Stmt := inClass (top 75) 3
abbrev sDesk_done : Stmt := inClass (top 75) 4
abbrev sDesk_deed : Stmt := inClass (top 75) 5
/-! ### the defs as data -/
def d_switch_of : He.DefD := ⟨("switch_of", none), "switch_of", "switch_of", defArgs s_switch_of, defBody s_switch_of, defScope s_switch_of, [], []⟩
def d_members : He.DefD := ⟨("members", none), "members", "members", defArgs s_members, defBody s_members, defScope s_members, [], []⟩
def d_shut_objects : He.DefD := ⟨("shut_objects", none), "shut_objects", "shut_objects", defArgs s_shut_objects, defBody s_shut_objects, defScope s_shut_objects, [], []⟩
def d_links : He.DefD := ⟨("links", none), "links", "links", defArgs s_links, defBody s_links, defScope s_links, [], []⟩
def d_joined : He.DefD := ⟨("joined", none), "joined", "joined", defArgs s_joined, defBody s_joined, defScope s_joined, [], []⟩
def d_live : He.DefD := ⟨("live", none), "live", "live", defArgs s_live, defBody s_live, defScope s_live, [], []⟩
def d_earthed : He.DefD := ⟨("earthed", none), "earthed", "earthed", defArgs s_earthed, defBody s_earthed, defScope s_earthed, [], []⟩
def d_safe : He.DefD := ⟨("safe", none), "safe", "safe", defArgs s_safe, defBody s_safe, defScope s_safe, [], []⟩
def d_loaded : He.DefD := ⟨("loaded", none), "loaded", "loaded", defArgs s_loaded, defBody s_loaded, defScope s_loaded, [], []⟩
def d_turned : He.DefD := ⟨("turned", none), "turned", "turned", defArgs s_turned, defBody s_turned, defScope s_turned, [], []⟩
def d_every_switch : He.DefD := ⟨("every_switch", none), "every_switch", "every_switch", defArgs s_every_switch, defBody s_every_switch, defScope s_every_switch, [], []⟩
def d_keeps_dead : He.DefD := ⟨("keeps_dead", none), "keeps_dead", "keeps_dead", defArgs s_keeps_dead, defBody s_keeps_dead, defScope s_keeps_dead, [], []⟩
def d_can_be_locked : He.DefD := ⟨("can_be_locked", none), "can_be_locked", "can_be_locked", defArgs s_can_be_locked, defBody s_can_be_locked, defScope s_can_be_locked, [], []⟩
def d_own_earths : He.DefD := ⟨("own_earths", none), "own_earths", "own_earths", defArgs s_own_earths, defBody s_own_earths, defScope s_own_earths, [], []⟩
def d_number_of : He.DefD := ⟨("number_of", none), "number_of", "number_of", defArgs s_number_of, defBody s_number_of, defScope s_number_of, [], []⟩
def d_count_told : He.DefD := ⟨("count_told", none), "count_told", "count_told", defArgs s_count_told, defBody s_count_told, defScope s_count_told, [], []⟩
def d_ends_of : He.DefD := ⟨("ends_of", none), "ends_of", "ends_of", defArgs s_ends_of, defBody s_ends_of, defScope s_ends_of, [], []⟩
def d_switch_told : He.DefD := ⟨("switch_told", none), "switch_told", "switch_told", defArgs s_switch_told, defBody s_switch_told, defScope s_switch_told, [], []⟩
def d_with_switch : He.DefD := ⟨("with_switch", none), "with_switch", "with_switch", defArgs s_with_switch, defBody s_with_switch, defScope s_with_switch, [], []⟩
def d_numbers_text : He.DefD := ⟨("numbers_text", none), "numbers_text", "numbers_text", defArgs s_numbers_text, defBody s_numbers_text, defScope s_numbers_text, [], []⟩
def d_place_told : He.DefD := ⟨("place_told", none), "place_told", "place_told", defArgs s_place_told, defBody s_place_told, defScope s_place_told, [], []⟩
def d_law_draw : He.DefD := ⟨("_law_draw", none), "_law_draw", "_law_draw", defArgs s_law_draw, defBody s_law_draw, defScope s_law_draw, [], []⟩
def d_law_switch : He.DefD := ⟨("_law_switch", none), "_law_switch", "_law_switch", defArgs s_law_switch, defBody s_law_switch, defScope s_law_switch, [], []⟩
def d_law_yard : He.DefD := ⟨("_law_yard", none), "_law_yard", "_law_yard", defArgs s_law_yard, defBody s_law_yard, defScope s_law_yard, [], []⟩
def d_law_classes : He.DefD := ⟨("_law_classes", none), "_law_classes", "_law_classes", defArgs s_law_classes, defBody s_law_classes, defScope s_law_classes, [], []⟩
def d_law_said : He.DefD := ⟨("_law_said", none), "_law_said", "_law_said", defArgs s_law_said, defBody s_law_said, defScope s_law_said, [], []⟩
def d_law_deed : He.DefD := ⟨("_law_deed", none), "_law_deed", "_law_deed", defArgs s_law_deed, defBody s_law_deed, defScope s_law_deed, [], []⟩
def d_law_due : He.DefD := ⟨("_law_due", none), "_law_due", "_law_due", defArgs s_law_due, defBody s_law_due, defScope s_law_due, [], []⟩
def d_law_same : He.DefD := ⟨("_law_same", none), "_law_same", "_law_same", defArgs s_law_same, defBody s_law_same, defScope s_law_same, [], []⟩
def d_law_numbers : He.DefD := ⟨("_law_numbers", none), "_law_numbers", "_law_numbers", defArgs s_law_numbers, defBody s_law_numbers, defScope s_law_numbers, [], []⟩
def d_law_look : He.DefD := ⟨("_law_look", none), "_law_look", "_law_look", defArgs s_law_look, defBody s_law_look, defScope s_law_look, [], []⟩
def d_law_numbered : He.DefD := ⟨("_law_numbered", none), "_law_numbered", "_law_numbered", defArgs s_law_numbered, defBody s_law_numbered, defScope s_law_numbered, [], []⟩
def d_law_prepared : He.DefD := ⟨("_law_prepared", none), "_law_prepared", "_law_prepared", defArgs s_law_prepared, defBody s_law_prepared, defScope s_law_prepared, [], []⟩
def d_law : He.DefD := ⟨("law", none), "law", "law", defArgs s_law, defBody s_law, defScope s_law, [], []⟩
def dFeed_init : He.DefD := ⟨("Feed", some "__init__"), "__init__", "Feed.__init__", defArgs sFeed_init, defBody sFeed_init, defScope sFeed_init, [], []⟩
def dFeed_feeds : He.DefD := ⟨("Feed", some "feeds"), "feeds", "Feed.feeds", defArgs sFeed_feeds, defBody sFeed_feeds, defScope sFeed_feeds, [], []⟩
def dFeed_earths : He.DefD := ⟨("Feed", some "earths"), "earths", "Switch.earths", defArgs sSwitch_earths, defBody sSwitch_earths, defScope sSwitch_earths, [], []⟩
def dFeed_joins : He.DefD := ⟨("Feed", some "joins"), "joins", "Switch.joins", defArgs sSwitch_joins, defBody sSwitch_joins, defScope sSwitch_joins, [], []⟩
def dFeed_gentle : He.DefD := ⟨("Feed", some "gentle"), "gentle", "Switch.gentle", defArgs sSwitch_gentle, defBody sSwitch_gentle, defScope sSwitch_gentle, [], []⟩
def dEarth_init : He.DefD := ⟨("Earth", some "__init__"), "__init__", "Earth.__init__", defArgs sEarth_init, defBody sEarth_init, defScope sEarth_init, [], []⟩
def dEarth_feeds : He.DefD := ⟨("Earth", some "feeds"), "feeds", "Switch.feeds", defArgs sSwitch_feeds, defBody sSwitch_feeds, defScope sSwitch_feeds, [], []⟩
def dEarth_earths : He.DefD := ⟨("Earth", some "earths"), "earths", "Earth.earths", defArgs sEarth_earths, defBody sEarth_earths, defScope sEarth_earths, [], []⟩
def dEarth_joins : He.DefD := ⟨("Earth", some "joins"), "joins", "Switch.joins", defArgs sSwitch_joins, defBody sSwitch_joins, defScope sSwitch_joins, [], []⟩
def dEarth_gentle : He.DefD := ⟨("Earth", some "gentle"), "gentle", "Switch.gentle", defArgs sSwitch_gentle, defBody sSwitch_gentle, defScope sSwitch_gentle, [], []⟩
def dBreaker_init : He.DefD := ⟨("Breaker", some "__init__"), "__init__", "Breaker.__init__", defArgs sBreaker_init, defBody sBreaker_init, defScope sBreaker_init, [], []⟩
def dBreaker_feeds : He.DefD := ⟨("Breaker", some "feeds"), "feeds", "Switch.feeds", defArgs sSwitch_feeds, defBody sSwitch_feeds, defScope sSwitch_feeds, [], []⟩
def dBreaker_earths : He.DefD := ⟨("Breaker", some "earths"), "earths", "Switch.earths", defArgs sSwitch_earths, defBody sSwitch_earths, defScope sSwitch_earths, [], []⟩
def dBreaker_joins : He.DefD := ⟨("Breaker", some "joins"), "joins", "Breaker.joins", defArgs sBreaker_joins, defBody sBreaker_joins, defScope sBreaker_joins, [], []⟩
def dBreaker_gentle : He.DefD := ⟨("Breaker", some "gentle"), "gentle", "Switch.gentle", defArgs sSwitch_gentle, defBody sSwitch_gentle, defScope sSwitch_gentle, [], []⟩
def dSplitter_init : He.DefD := ⟨("Splitter", some "__init__"), "__init__", "Breaker.__init__", defArgs sBreaker_init, defBody sBreaker_init, defScope sBreaker_init, [], []⟩
def dSplitter_feeds : He.DefD := ⟨("Splitter", some "feeds"), "feeds", "Switch.feeds", defArgs sSwitch_feeds, defBody sSwitch_feeds, defScope sSwitch_feeds, [], []⟩
def dSplitter_earths : He.DefD := ⟨("Splitter", some "earths"), "earths", "Switch.earths", defArgs sSwitch_earths, defBody sSwitch_earths, defScope sSwitch_earths, [], []⟩
def dSplitter_joins : He.DefD := ⟨("Splitter", some "joins"), "joins", "Breaker.joins", defArgs sBreaker_joins, defBody sBreaker_joins, defScope sBreaker_joins, [], []⟩
def dSplitter_gentle : He.DefD := ⟨("Splitter", some "gentle"), "gentle", "Splitter.gentle", defArgs sSplitter_gentle, defBody sSplitter_gentle, defScope sSplitter_gentle, [], []⟩
def dBoard_init : He.DefD := ⟨("Board", some "__init__"), "__init__", "Board.__init__", defArgs sBoard_init, defBody sBoard_init, defScope sBoard_init, [], []⟩
def dBoard_standing : He.DefD := ⟨("Board", some "standing"), "standing", "Board.standing", defArgs sBoard_standing, defBody sBoard_standing, defScope sBoard_standing, [], []⟩
def dBoard_locked : He.DefD := ⟨("Board", some "locked"), "locked", "Board.locked", defArgs sBoard_locked, defBody sBoard_locked, defScope sBoard_locked, [], []⟩
def dBoard_held : He.DefD := ⟨("Board", some "held"), "held", "Board.held", defArgs sBoard_held, defBody sBoard_held, defScope sBoard_held, [], []⟩
def dBoard_need : He.DefD := ⟨("Board", some "need"), "need", "Board.need", defArgs sBoard_need, defBody sBoard_need, defScope sBoard_need, [], []⟩
def dBoard_turn : He.DefD := ⟨("Board", some "turn"), "turn", "Board.turn", defArgs sBoard_turn, defBody sBoard_turn, defScope sBoard_turn, [], []⟩
def dBoard_lock : He.DefD := ⟨("Board", some "lock"), "lock", "Board.lock", defArgs sBoard_lock, defBody sBoard_lock, defScope sBoard_lock, [], []⟩
def dBoard_unlock : He.DefD := ⟨("Board", some "unlock"), "unlock", "Board.unlock", defArgs sBoard_unlock, defBody sBoard_unlock, defScope sBoard_unlock, [], []⟩
def dBoard_permit : He.DefD := ⟨("Board", some "permit"), "permit", "Board.permit", defArgs sBoard_permit, defBody sBoard_permit, defScope sBoard_permit, [], []⟩
def dBoard_give_back : He.DefD := ⟨("Board", some "give_back"), "give_back", "Board.give_back", defArgs sBoard_give_back, defBody sBoard_give_back, defScope sBoard_give_back, [], []⟩
def dDesk_init : He.DefD := ⟨("Desk", some "__init__"), "__init__", "Desk.__init__", defArgs sDesk_init, defBody sDesk_init, defScope sDesk_init, [], []⟩
def dDesk_say : He.DefD := ⟨("Desk", some "say"), "say", "Desk.say", defArgs sDesk_say, defBody sDesk_say, defScope sDesk_say, [], []⟩
def dDesk_begun : He.DefD := ⟨("Desk", some "begun"), "begun", "Desk.begun", defArgs sDesk_begun, defBody sDesk_begun, defScope sDesk_begun, [], []⟩
def dDesk_seen : He.DefD := ⟨("Desk", some "seen"), "seen", "Desk.seen", defArgs sDesk_seen, defBody sDesk_seen, defScope sDesk_seen, [], []⟩
def dDesk_done : He.DefD := ⟨("Desk", some "done"), "done", "Desk.done", defArgs sDesk_done, defBody sDesk_done, defScope sDesk_done, [], []⟩
def dDesk_deed : He.DefD := ⟨("Desk", some "deed"), "deed", "Desk.deed", defArgs sDesk_deed, defBody sDesk_deed, defScope sDesk_deed, [], []⟩
def fn : List He.DefD := [d_switch_of, d_members, d_shut_objects, d_links, d_joined, d_live, d_earthed, d_safe, d_loaded, d_turned, d_every_switch, d_keeps_dead, d_can_be_locked, d_own_earths, d_number_of, d_count_told, d_ends_of, d_switch_told, d_with_switch, d_numbers_text, d_place_told, d_law_draw, d_law_switch, d_law_yard, d_law_classes, d_law_said, d_law_deed, d_law_due, d_law_same, d_law_numbers, d_law_look, d_law_numbered, d_law_prepared, d_law, dFeed_init, dFeed_feeds, dFeed_earths, dFeed_joins, dFeed_gentle, dEarth_init, dEarth_feeds, dEarth_earths, dEarth_joins, dEarth_gentle, dBreaker_init, dBreaker_feeds, dBreaker_earths, dBreaker_joins, dBreaker_gentle, dSplitter_init, dSplitter_feeds, dSplitter_earths, dSplitter_joins, dSplitter_gentle, dBoard_init, dBoard_standing, dBoard_locked, dBoard_held, dBoard_need, dBoard_turn, dBoard_lock, dBoard_unlock, dBoard_permit, dBoard_give_back, dDesk_init, dDesk_say, dDesk_begun, dDesk_seen, dDesk_done, dDesk_deed]
def fa : List He.Fa := [.glo "switch_of", .glo "members", .glo "shut_objects", .glo "links", .glo "joined", .glo "live", .glo "earthed", .glo "safe", .glo "loaded", .glo "turned", .glo "every_switch", .glo "keeps_dead", .glo "can_be_locked", .glo "own_earths", .glo "number_of", .glo "count_told", .glo "ends_of", .glo "switch_told", .glo "with_switch", .glo "numbers_text", .glo "place_told", .glo "_law_draw", .glo "_law_switch", .glo "_law_yard", .glo "_law_classes", .glo "_law_said", .glo "_law_deed", .glo "_law_due", .glo "_law_same", .glo "_law_numbers", .glo "_law_look", .glo "_law_numbered", .glo "_law_prepared", .glo "law", .glo "Feed", .cls "Feed", .mkr "Feed", .glo "Earth", .cls "Earth", .mkr "Earth", .glo "Breaker", .cls "Breaker", .mkr "Breaker", .glo "Splitter", .cls "Splitter", .mkr "Splitter", .glo "Board", .cls "Board", .mkr "Board", .glo "Desk", .cls "Desk", .mkr "Desk", .noat "Feed" "bar", .noat "Earth" "bar", .noat "Breaker" "one", .noat "Breaker" "other", .noat "Splitter" "one", .noat "Splitter" "other", .noat "Board" "yard", .noat "Board" "shut_ones", .noat "Board" "locks", .noat "Board" "given", .noat "Board" "last", .noat "Desk" "yard", .noat "Desk" "board", .meth "Feed" "feeds", .meth "Feed" "earths", .meth "Feed" "joins", .meth "Feed" "gentle", .meth "Earth" "feeds", .meth "Earth" "earths", .meth "Earth" "joins", .meth "Earth" "gentle", .meth "Breaker" "feeds", .meth "Breaker" "earths", .meth "Breaker" "joins", .meth "Breaker" "gentle", .meth "Splitter" "feeds", .meth "Splitter" "earths", .meth "Splitter" "joins", .meth "Splitter" "gentle", .meth "Board" "standing", .meth "Board" "locked", .meth "Board" "held", .meth "Board" "need", .meth "Board" "turn", .meth "Board" "lock", .meth "Board" "unlock", .meth "Board" "permit", .meth "Board" "give_back", .meth "Desk" "say", .meth "Desk" "begun", .meth "Desk" "seen", .meth "Desk" "done", .meth "Desk" "deed", .free "enumerate", .free "len", .free "list", .free "tuple", .free "range", .free "str", .free "int", .free "sum", .free "isinstance", .int "LONGEST" 9, .int "MOST_BARS" 10, .int "MOST_SWITCHES" 12, .str "FIGURES" "0123456789", .glo "DEEDS", .glo "WardError", .exc "WardError", .glo "NoRow", .exc "NoRow", .glo "NoMeasure", .exc "NoMeasure", .glo "NoBar", .exc "NoBar", .glo "Same", .exc "Same", .glo "NoSwitch", .exc "NoSwitch", .glo "Loaded", .exc "Loaded", .glo "Shorted", .exc "Shorted", .glo "Locked", .exc "Locked", .glo "Held", .exc "Held", .glo "NoLock", .exc "NoLock", .glo "NotOpen", .exc "NotOpen", .glo "NotLocked", .exc "NotLocked", .glo "NotEarthed", .exc "NotEarthed", .glo "NotDead", .exc "NotDead", .glo "NoPermit", .exc "NoPermit", .exm "NoSwitch" "WardError" true, .exm "Loaded" "WardError" true, .exm "Shorted" "WardError" true, .exm "Locked" "WardError" true, .exm "Held" "WardError" true, .exm "NoLock" "WardError" true, .exm "NotOpen" "WardError" true, .exm "NotLocked" "WardError" true, .exm "NotEarthed" "WardError" true, .exm "NotDead" "WardError" true, .exm "NoPermit" "WardError" true]
/-- the eleven that are raised here; the fifteen in the order of the look -/
def rais : List Str := ["NoSwitch", "Loaded", "Shorted", "Locked", "Held", "NoLock", "NotOpen", "NotLocked", "NotEarthed", "NotDead", "NoPermit"]
def fift : List Str := ["NoSwitch", "Loaded", "Shorted", "Locked", "Held", "NoLock", "NotOpen", "NotLocked", "NotEarthed", "NotDead", "NoPermit", "NoRow", "NoMeasure", "NoBar", "Same"]
/-- what is asked besides: isinstance of the raised classes, DEEDS -/
def isi (K : PySem.W.Frag) (n c : Str) : Bool := decide (PySem.W.kitOne K (.ref (He.ga K n)) (.ref (He.ga K c)) = some (decide (n = c)))
def excC (K : PySem.W.Frag) (D : Addr) : Bool := decide (PySem.W.findIn K (.ref D) "__getattribute__" = some (some (.builtin "BaseException.__getattribute__"))) && (decide (PySem.W.findIn K (.ref D) "__getattr__" = some none) && (PySem.W.hasDictIn K D &&
  (decide (PySem.W.findIn K (.ref D) "__class__" = some (some (.builtin "object.__class__"))) && (decide (PySem.W.specialIn K (.builtin "object.__class__") "__get__" = some (some (.builtin "getset_descriptor.__get__"))) &&
  (decide (PySem.W.takesIn K (.builtin "object.__class__") = some true) && decide (PySem.W.mroIn K D (.type "object") = some true))))))
def more (K : PySem.W.Frag) : Bool := (rais.all fun n => fift.all fun c => isi K n c) && ((rais.all fun n => excC K (He.ga K n)) && He.tupB K "DEEDS" [.str "turn", .str "lock", .str "unlock", .str "back"])
def nd0 : List Str := ["switch_of", "members", "shut_objects", "links", "joined", "live", "earthed", "safe", "loaded", "turned", "every_switch", "keeps_dead", "can_be_locked", "own_earths", "number_of", "count_told"]
def nd1 : List Str := ["ends_of", "switch_told", "with_switch", "numbers_text", "place_told", "_law_draw", "_law_switch", "_law_yard", "_law_classes", "_law_said", "_law_deed", "_law_due", "_law_same", "_law_numbers", "_law_look", "_law_numbered"]
def nd2 : List Str := ["_law_prepared", "law", "Switch", "Feed", "Earth", "Breaker", "Splitter", "Board", "Desk", "WardError", "NoRow", "NoMeasure", "NoBar", "Same", "NoSwitch", "Loaded"]
def nd3 : List Str := ["Shorted", "Locked", "Held", "NoLock", "NotOpen", "NotLocked", "NotEarthed", "NotDead", "NoPermit", "DEEDS"]
def nd : List Str := nd0 ++ (nd1 ++ (nd2 ++ (nd3)))
/-! ### the Hook: the written part is what these names reach -/
def pick (o : Obj) : List Addr := match o.data with
  | .func fd => He.refV fd.code
  | .cls cd => [cd.ns]
  | .dict es _ => es.toList.flatMap fun e => He.refV e.val
  | _ => []
def reach (g : Addr → Option Obj) (as : List Addr) : List Addr := as.flatMap fun a => match g a with
  | some o => pick o
  | none => []
def fcL {β : Type} : List Addr → (List Addr → β) → β
  | [], k => k []
  | a :: r, k => HandSHeadRun.frNat a fun a => fcL r fun r => k (a :: r)
theorem fcL_eq {β : Type} : ∀ (l : List Addr) (k : List Addr → β), fcL l k = k l
  | [], k => rfl
  | a :: r, k => by
    show HandSHeadRun.frNat a (fun a => fcL r fun r => k (a :: r)) = k (a :: r)
    rw [HandSHeadRun.frNat_eq, fcL_eq r]
def fcF {β : Type} : PySem.W.Frag → (PySem.W.Frag → β) → β
  | [], k => k []
  | (a, o) :: r, k => HandSHeadRun.frNat a fun a => fcF r fun r => k ((a, o) :: r)
theorem fcF_eq {β : Type} : ∀ (l : PySem.W.Frag) (k : PySem.W.Frag → β), fcF l k = k l
  | [], k => rfl
  | (a, o) :: r, k => by
    show HandSHeadRun.frNat a (fun a => fcF r fun r => k ((a, o) :: r)) = k ((a, o) :: r)
    rw [HandSHeadRun.frNat_eq, fcF_eq r]
def lev1 (g : Addr → Option Obj) : List Addr := nd.map fun x => He.ga (He.frG g [mainGlobals]) x
/-- the written part -/
def kOf (g : Addr → Option Obj) : PySem.W.Frag := He.frG g (mainGlobals :: (lev1 g ++ (reach g (lev1 g) ++ (reach g (reach g (lev1 g)) ++ reach g (reach g (reach g (lev1 g)))))))
def kFc {β : Type} (g : Addr → Option Obj) (k : PySem.W.Frag → β) : β := fcL (lev1 g) fun l1 => fcL (reach g l1) fun l2 => fcL (reach g l2) fun l3 => fcL (reach g l3) fun l4 => fcF (He.frG g (mainGlobals :: (l1 ++ (l2 ++ (l3 ++ l4))))) k
theorem kFc_eq {β : Type} (g : Addr → Option Obj) (k : PySem.W.Frag → β) : kFc g k = k (kOf g) := by
  unfold kFc kOf
  rw [fcL_eq, fcL_eq, fcL_eq, fcL_eq, fcF_eq]
abbrev AlY : Type := He.AlD × Bool
def hookY : PySem.W.Hook where
  α := AlY
  obs := fun s => (He.obsD fa fn (kOf s.heap.get?), more (kOf s.heap.get?))
  val := fun _ => (He.valD fn, true)
  says := fun _ h => ∃ K : PySem.W.Frag, K.In h ∧ He.SaysD fa fn K ∧ more K = true
  of := fun _ _ e => ⟨_, He.frG_in, congrArg (fun z : AlY => z.1) e, congrArg (fun z : AlY => z.2) e⟩
  keeps := fun _ _ _ ⟨K, hK, c⟩ k => ⟨K, PySem.W.Frag.In.keeps hK k, c⟩
abbrev R : PySem.W.OpenRow := PySem.W.OpenLaw.row PySem.Challenge.rw_earthward_k38_the_board_by_rows
def obY (s : PySem.W.SharedT) : AlY := kFc (HandSHeadRun.getT s) fun K => (He.obsD fa fn K, more K)
theorem obY_eq (s : PySem.W.SharedT) : obY s = hookY.obs s.abs := by
  have e : HandSHeadRun.getT s = s.abs.heap.get? := funext (HandSHeadRun.getT_eq s)
  unfold obY
  rw [kFc_eq, e]
  rfl
def nms0 : List PySem.Str := ["WardError", "NoRow", "NoMeasure", "NoBar", "Same", "NoSwitch", "Loaded", "Shorted", "Locked", "Held", "NoLock", "NotOpen", "NotLocked", "NotEarthed", "NotDead", "NoPermit"]
def nms1 : List PySem.Str := ["Switch", "Feed", "Earth", "Breaker", "Splitter", "switch_of", "members", "shut_objects", "links", "joined", "live", "earthed", "safe", "loaded", "turned", "every_switch"]
def nms2 : List PySem.Str := ["keeps_dead", "begun_ways", "steps_on", "come_to", "most_ways", "gone_on", "way_taken", "feeds_used", "is_lock", "fewest_locks", "can_be_locked", "own_earths", "Board", "free_ones", "stood_behind", "next_layer"]
def nms3 : List PySem.Str := ["as_wished", "deeds_to", "plan", "FIGURES", "LONGEST", "MOST_BARS", "MOST_SWITCHES", "number_of", "count_told", "ends_of", "switch_told", "with_switch", "shown", "DEEDS", "WISHES", "numbers_text"]
def nms4 : List PySem.Str := ["place_told", "wish_told", "Desk", "_law_draw", "_law_switch", "_law_yard", "_law_classes", "_law_said", "_law_deed", "_law_due", "_law_same", "_law_numbers", "_law_look", "_law_numbered", "_law_prepared"]
def nms : List PySem.Str := nms0 ++ (nms1 ++ (nms2 ++ (nms3 ++ (nms4))))
end K38
namespace K38
open PySem PySem.Spec PyProof.Rows L2
theorem run (w : World) : HandSHeadRun.RunEq R (PySem.W.view R.prog [89]) hookY obY 20000 nms w := by
  intro os
  kernel_rfl
end K38
namespace K38
open PySem PySem.Spec PyProof.Rows L2
/-! ### the facts of the top, by name -/
structure Ct (K : PySem.W.Frag) (mg : Str → Option Value) : Prop where
  sd : He.SaysD fa fn K
  mo : more K = true
  at_ : ∃ h : Heap, K.In h ∧ h.Ns mainGlobals mg
def isGlo (x : Str) : Bool := fa.any fun f => match f with | .glo y => decide (y = x) | _ => false
def isFree (x : Str) : Bool := fa.any fun f => match f with | .free y => decide (y = x) | _ => false
def isCls (x : Str) : Bool := fa.any fun f => match f with | .cls y => decide (y = x) | _ => false
def isMkr (x : Str) : Bool := fa.any fun f => match f with | .mkr y => decide (y = x) | _ => false
def isExc (x : Str) : Bool := fa.any fun f => match f with | .exc y => decide (y = x) | _ => false
def isInt (x : Str) (i : Int) : Bool := fa.any fun f => match f with | .int y j => decide (y = x) && decide (j = i) | _ => false
def isStr (x z : Str) : Bool := fa.any fun f => match f with | .str y u => decide (y = x) && decide (u = z) | _ => false
def isNoat (x m : Str) : Bool := fa.any fun f => match f with | .noat y u => decide (y = x) && decide (u = m) | _ => false
def isMeth (x m : Str) : Bool := fa.any fun f => match f with | .meth y u => decide (y = x) && decide (u = m) | _ => false
def isExm (x m : Str) : Bool := fa.any fun f => match f with | .exm y u true => decide (y = x) && decide (u = m) | _ => false
section
variable {K : PySem.W.Frag} {mg : Str → Option Value}
theorem Ct.ok (c : Ct K mg) {f : He.Fa} (h : f ∈ fa) : f.ok K = true := by
  obtain ⟨i, hi, e⟩ := List.mem_iff_getElem.mp h
  exact c.sd.fact i (f := f) (by rw [List.getElem?_eq_getElem hi, e])
theorem d2 {a b c d : Str} (h : (decide (a = b) && decide (c = d)) = true) : a = b ∧ c = d := by
  rw [Bool.and_eq_true, decide_eq_true_eq, decide_eq_true_eq] at h
  exact h
theorem Ct.glo (c : Ct K mg) (x : Str) (h : isGlo x = true := by decide +kernel) : mg x = some (.ref (He.ga K x)) := by
  obtain ⟨f, hf, q⟩ := List.any_eq_true.mp h
  cases f <;> first | cases q | skip
  have e := of_decide_eq_true q
  subst e
  obtain ⟨hp, X, G⟩ := c.at_
  exact He.glo_ok X G (c.ok hf)
theorem Ct.free (c : Ct K mg) (x : Str) (h : isFree x = true := by decide +kernel) : mg x = none := by
  obtain ⟨f, hf, q⟩ := List.any_eq_true.mp h
  cases f <;> first | cases q | skip
  have e := of_decide_eq_true q
  subst e
  obtain ⟨hp, X, G⟩ := c.at_
  exact He.free_ok X G (c.ok hf)
theorem Ct.cls (c : Ct K mg) (x : Str) (h : isCls x = true := by decide +kernel) : Cls K (He.ga K x) := by
  obtain ⟨f, hf, q⟩ := List.any_eq_true.mp h
  cases f <;> first | cases q | skip
  have e := of_decide_eq_true q
  subst e
  exact He.cls_ok (c.ok hf)
theorem Ct.mkr (c : Ct K mg) (x : Str) (h : isMkr x = true := by decide +kernel) : Mk K (He.ga K x) (He.ma K (He.ga K x) "__init__") := by
  obtain ⟨f, hf, q⟩ := List.any_eq_true.mp h
  cases f <;> first | cases q | skip
  have e := of_decide_eq_true q
  subst e
  exact He.mkr_ok (c.ok hf)
theorem Ct.exc (c : Ct K mg) (x : Str) (h : isExc x = true := by decide +kernel) : PySem.W.excIn K (He.ga K x) He.veBase "ValueError.__new__" = true ∧ PySem.W.keepIn K (.ref (He.ga K x)) = true ∧
    PySem.W.subIn K (.ref (He.ga K x)) (.type "BaseException") = some true ∧ PySem.W.typeIn K (.ref (He.ga K x)) = some (.type "type") := by
  obtain ⟨f, hf, q⟩ := List.any_eq_true.mp h
  cases f <;> first | cases q | skip
  have e := of_decide_eq_true q
  subst e
  exact He.exc_ok (c.ok hf)
theorem Ct.int (c : Ct K mg) (x : Str) (i : Int) (h : isInt x i = true := by decide +kernel) : ∃ t, mg x = some (.int i t) := by
  obtain ⟨f, hf, q⟩ := List.any_eq_true.mp h
  cases f <;> first | cases q | skip
  rw [Bool.and_eq_true, decide_eq_true_eq, decide_eq_true_eq] at q
  obtain ⟨e1, e2⟩ := q
  subst e1 e2
  obtain ⟨hp, X, G⟩ := c.at_
  exact He.int_ok X G (c.ok hf)
theorem Ct.str (c : Ct K mg) (x z : Str) (h : isStr x z = true := by decide +kernel) : ∃ t, mg x = some (.str z t) := by
  obtain ⟨f, hf, q⟩ := List.any_eq_true.mp h
  cases f <;> first | cases q | skip
  obtain ⟨e1, e2⟩ := d2 q
  subst e1 e2
  obtain ⟨hp, X, G⟩ := c.at_
  exact He.str_ok X G (c.ok hf)
theorem Ct.noat (c : Ct K mg) (x m : Str) (h : isNoat x m = true := by decide +kernel) : NoAttr K (He.ga K x) m := by
  obtain ⟨f, hf, q⟩ := List.any_eq_true.mp h
  cases f <;> first | cases q | skip
  obtain ⟨e1, e2⟩ := d2 q
  subst e1 e2
  exact He.noat_ok (c.ok hf)
theorem Ct.meth (c : Ct K mg) (x m : Str) (h : isMeth x m = true := by decide +kernel) : Meth K (He.ga K x) m (He.ma K (He.ga K x) m) := by
  obtain ⟨f, hf, q⟩ := List.any_eq_true.mp h
  cases f <;> first | cases q | skip
  obtain ⟨e1, e2⟩ := d2 q
  subst e1 e2
  exact He.meth_ok (c.ok hf)
theorem Ct.exm (c : Ct K mg) (x y : Str) (h : isExm x y = true) : PySem.W.exmOne K (.ref (He.ga K x)) (.ref (He.ga K y)) = some true := by
  obtain ⟨f, hf, q⟩ := List.any_eq_true.mp h
  cases f <;> first | cases q | skip
  rename_i y1 y2 b
  cases b with
  | false => cases q
  | true =>
    obtain ⟨e1, e2⟩ := d2 q
    subst e1 e2
    exact He.exm_ok (c.ok hf)
theorem exm_all : (rais.all fun n => isExm n "WardError") = true := by decide +kernel
theorem Ct.ward (c : Ct K mg) {n : Str} (h : n ∈ rais) : PySem.W.exmOne K (.ref (He.ga K n)) (.ref (He.ga K "WardError")) = some true := c.exm n "WardError" (List.all_eq_true.mp exm_all n h)
theorem Ct.isi (c : Ct K mg) {n x : Str} (h : n ∈ rais) (hx : x ∈ fift) : PySem.W.kitOne K (.ref (He.ga K n)) (.ref (He.ga K x)) = some (decide (n = x)) := by
  have z := (He.ba c.mo).1
  exact of_decide_eq_true (List.all_eq_true.mp (List.all_eq_true.mp z n h) x hx)
theorem exc_all : (rais.all fun n => isExc n) = true := by decide +kernel
theorem Ct.excC (c : Ct K mg) {n : Str} (h : n ∈ rais) : ExcC K (He.ga K n) := by
  have z := List.all_eq_true.mp (He.ba (He.ba c.mo).2).1 n h
  obtain ⟨h1, z⟩ := He.ba z
  obtain ⟨h2, z⟩ := He.ba z
  obtain ⟨h3, z⟩ := He.ba z
  obtain ⟨h4, z⟩ := He.ba z
  obtain ⟨h5, z⟩ := He.ba z
  obtain ⟨h6, h7⟩ := He.ba z
  exact ⟨of_decide_eq_true h1, of_decide_eq_true h2, (c.exc n (List.all_eq_true.mp exc_all n h)).2.2.1, h3, of_decide_eq_true h4, of_decide_eq_true h5, of_decide_eq_true h6, of_decide_eq_true h7⟩
theorem Ct.deeds (c : Ct K mg) (H : Hp) : SqT K H (He.ga K "DEEDS") [.str "turn", .str "lock", .str "unlock", .str "back"] := He.tupB_ok (vs := [.str "turn", .str "lock", .str "unlock", .str "back"]) (He.ba (He.ba c.mo).2).2 H
end
/-! ### defs, methods, makers by name -/
structure Go (P : Program) (w : World) (K : PySem.W.Frag) (mg : Str → Option Value) (base : Heap) (k : Nat) (x : Str) (sp : Sp) : Prop where
  ex : ∃ (fd : FuncData) (ps : List Str), FnOk P w K mg base (L2.CX P w) k (He.ga K x) fd ps sp ∧ mg x = some (.ref (He.ga K x)) ∧ PySem.W.keepIn K (.ref (He.ga K x)) = true ∧ Binds K fd ps []
structure Gm (P : Program) (w : World) (K : PySem.W.Frag) (mg : Str → Option Value) (base : Heap) (k : Nat) (C m : Str) (sp : Sp) : Prop where
  ex : ∃ (fd : FuncData) (ps : List Str), FnOk P w K mg base (L2.CX P w) k (He.ma K (He.ga K C) m) fd ps sp ∧ Cls K (He.ga K C) ∧ Meth K (He.ga K C) m (He.ma K (He.ga K C) m) ∧ Binds K fd ps []
structure Gk (P : Program) (w : World) (K : PySem.W.Frag) (mg : Str → Option Value) (base : Heap) (k : Nat) (C : Str) (sp : Sp) : Prop where
  ex : ∃ (fd : FuncData) (ps : List Str), FnOk P w K mg base (L2.CX P w) k (He.ma K (He.ga K C) "__init__") fd ps sp ∧ Mk K (He.ga K C) (He.ma K (He.ga K C) "__init__") ∧ mg C = some (.ref (He.ga K C)) ∧ Binds K fd ps []
/-- the def's arguments bind by place -/
abbrev BndOk (d : He.DefD) (ps : List Str) : Prop := ∀ (kV doc pm : Value) (an : Option Addr) (cdv ct : Value) (us : List Value), us.length = ps.length → bindArgs (PySem.W.fnOf d.name d.qual d.params d.body d.scope .none kV doc pm an cdv ct) ⟨us, []⟩ = pure (ps.zip us)
section
variable {P : Program} {w : World} {K : PySem.W.Frag} {mg : Str → Option Value} {base : Heap} {d : He.DefD} {N ps : List Str} {k : Nat} {sp : Sp}
/-- the walk of a body to its promise -/
abbrev BodyOk (P : Program) (w : World) (K : PySem.W.Frag) (mg : Str → Option Value) (base : Heap) (d : He.DefD) (f : Addr) (N : List Str) (k : Nat) (sp : Sp) : Prop :=
  ∀ (cdv : Value) (A : Around) (outer : List Env) (s : Shared) (H : Hp) (vs : List V) (Q : VK) (E : XK), Room k (A.deeper (envOfC d.qual d.scope s.heap.objs.size f cdv)) → sp vs H Q E →
      ∃ t, PSs (cxOf (L2.CX P w) P w K mg base N d.qual d.scope f cdv A outer s H E) d.body t ∧ t { nx := fun _ H' => Q .non H', rt := Q } (start N vs) H
theorem go_of {x : Str} (c : Ct K mg) (i : Nat) (hd : fn[i]? = some d) (ha : d.at_ = (x, none)) (h1 : d.dfl = []) (h2 : d.kwd = []) (S : FnScope N ps d.scope) (hb : BndOk d ps) (len : ∀ vs H Q E, sp vs H Q E → vs.length = ps.length)
    (body : BodyOk P w K mg base d (He.ga K x) N k sp) (hg : isGlo x = true := by decide +kernel) : Go P w K mg base (k + 1) x sp := by
  obtain ⟨fd, F⟩ := c.sd.def_ i hd
  have e : He.fAd K d.at_ = He.ga K x := by rw [ha] <;> rfl
  rw [e] at F
  have e1 : d.dvs K = [] := by unfold He.DefD.dvs; rw [h1] <;> rfl
  have e2 : d.kws K = [] := by unfold He.DefD.kws; rw [h2] <;> rfl
  rw [e1] at F
  exact ⟨fd, ps, F.ok S len body, c.glo x hg, F.kp, F.bindsN hb⟩
theorem gm_of {C m : Str} (c : Ct K mg) (i : Nat) (hd : fn[i]? = some d) (ha : d.at_ = (C, some m)) (h1 : d.dfl = []) (h2 : d.kwd = []) (S : FnScope N ps d.scope) (hb : BndOk d ps) (len : ∀ vs H Q E, sp vs H Q E → vs.length = ps.length)
    (body : BodyOk P w K mg base d (He.ma K (He.ga K C) m) N k sp) (hc : isCls C = true := by decide +kernel) (hm : isMeth C m = true := by decide +kernel) : Gm P w K mg base (k + 1) C m sp := by
  obtain ⟨fd, F⟩ := c.sd.def_ i hd
  have e : He.fAd K d.at_ = He.ma K (He.ga K C) m := by rw [ha] <;> rfl
  rw [e] at F
  have e1 : d.dvs K = [] := by unfold He.DefD.dvs; rw [h1] <;> rfl
  rw [e1] at F
  exact ⟨fd, ps, F.ok S len body, c.cls C hc, c.meth C m hm, F.bindsN hb⟩
theorem gk_of {C : Str} (c : Ct K mg) (i : Nat) (hd : fn[i]? = some d) (ha : d.at_ = (C, some ("__init__" : Str))) (h1 : d.dfl = []) (h2 : d.kwd = []) (S : FnScope N ps d.scope) (hb : BndOk d ps) (len : ∀ vs H Q E, sp vs H Q E → vs.length = ps.length)
    (body : BodyOk P w K mg base d (He.ma K (He.ga K C) "__init__") N k sp) (hc : isMkr C = true := by decide +kernel) (hg : isGlo C = true := by decide +kernel) : Gk P w K mg base (k + 1) C sp := by
  obtain ⟨fd, F⟩ := c.sd.def_ i hd
  have e : He.fAd K d.at_ = He.ma K (He.ga K C) "__init__" := by rw [ha] <;> rfl
  rw [e] at F
  have e1 : d.dvs K = [] := by unfold He.DefD.dvs; rw [h1] <;> rfl
  rw [e1] at F
  exact ⟨fd, ps, F.ok S len body, c.mkr C hc, c.glo C hg, F.bindsN hb⟩
theorem Go.mono {x : Str} {j : Nat} (g : Go P w K mg base k x sp) (h : k ≤ j) : Go P w K mg base j x sp := by
  obtain ⟨fd, ps, F, r⟩ := g.ex
  exact ⟨fd, ps, F.mono h, r⟩
theorem Gm.mono {C m : Str} {j : Nat} (g : Gm P w K mg base k C m sp) (h : k ≤ j) : Gm P w K mg base j C m sp := by
  obtain ⟨fd, ps, F, r⟩ := g.ex
  exact ⟨fd, ps, F.mono h, r⟩
theorem Gk.mono {C : Str} {j : Nat} (g : Gk P w K mg base k C sp) (h : k ≤ j) : Gk P w K mg base j C sp := by
  obtain ⟨fd, ps, F, r⟩ := g.ex
  exact ⟨fd, ps, F.mono h, r⟩
end
section
variable {X : Cx} {k j : Nat} {x C m : Str} {sp : Sp} {E : XK} {e o : Expr} {es : List Expr} {ta : TE} {t : TA} {p pos apos : Pos}
/-- what a callee lets out, this def lets out -/
theorem passE {P : Program} {w : World} {K : PySem.W.Frag} {mg : Str → Option Value} {base : Heap} {N : List Str} {q : Str} {sc : Scope} {f : Addr} {cd : Value} {A : Around} {outer : List Env} {s : Shared} {H : Hp} {E : XK} :
    Passes (L2.CX P w) (cxOf (L2.CX P w) P w K mg base N q sc f cd A outer s H E) E := passes_call (W := fun cls d _ H => E cls d H) (takes_of rfl rfl rfl rfl) (fun _ _ _ _ h => h)
theorem pe_g (g : Go X.prog X.w X.K X.mg X.base k x sp) (hr : Room j X.A) (hx : Passes (L2.CX X.prog X.w) X E) (ha : PA X (e :: es) t) (hk : k ≤ j := by decide) (hg : Gl X x := by rfl) (hdb : (x == ("__debug__" : Str)) = false := by decide)
    (he : starEach (e :: es) X.env = (false, eval e X.env) :: starEach es X.env := by rfl) (hpl : (backTo pos (starEach es X.env)).any (·.1) = false := by rfl) : PE X (.Call (.Name x p) (e :: es) [] pos) (tCall sp [] E t) := by
  obtain ⟨fd, ps, F, h1, h2, h3⟩ := g.ex
  exact pe_call F (hr.mono hk) hg h1 h2 h3 .nil hx ha hdb he hpl
theorem pe_gm {pl : Sem Bool} (g : Gm X.prog X.w X.K X.mg X.base k C m sp) (hr : Room j X.A) (hx : Passes (L2.CX X.prog X.w) X E) (ho : PE X o ta) (ha : PA X (e :: es) t) (hk : k ≤ j := by decide)
    (hst : starEach (e :: es) X.env = (false, eval e X.env) :: starEach es X.env := by rfl) (hpl : (backTo pos (starEach es X.env)).any (·.1) = false := by rfl)
    (ht : eval (.Call (.Attribute o m apos) (e :: es) [] pos) X.env = (do
      let ov ← eval o X.env
      standAt apos.atName
      let (f, first) ← holding [ov] (getMethod ov m pl)
      callWith pos f first (backTo pos (starEach (e :: es) X.env)) (backToKw pos (keywordEach [] X.env))) := by rfl) : PE X (.Call (.Attribute o m apos) (e :: es) [] pos) (tMeth (He.ga X.K C) m sp [] E ta t) := by
  obtain ⟨fd, ps, F, h1, h2, h3⟩ := g.ex
  exact pe_meth (pl := pl) ho h1 h2 F (hr.mono hk) h3 .nil hx ha hst hpl ht
theorem pe_gm0 {pl : Sem Bool} (g : Gm X.prog X.w X.K X.mg X.base k C m sp) (hr : Room j X.A) (hx : Passes (L2.CX X.prog X.w) X E) (ho : PE X o ta) (hk : k ≤ j := by decide)
    (ht : eval (.Call (.Attribute o m apos) [] [] pos) X.env = (do
      let ov ← eval o X.env
      standAt apos.atName
      let (f, first) ← holding [ov] (getMethod ov m pl)
      callWith pos f first (backTo pos (starEach [] X.env)) (backToKw pos (keywordEach [] X.env))) := by rfl) : PE X (.Call (.Attribute o m apos) [] [] pos) (tMeth (He.ga X.K C) m sp [] E ta tNil) := by
  obtain ⟨fd, ps, F, h1, h2, h3⟩ := g.ex
  exact pe_meth0 (pl := pl) ho h1 h2 F (hr.mono hk) h3 .nil hx ht
theorem pe_gk (g : Gk X.prog X.w X.K X.mg X.base k C sp) (hr : Room j X.A) (hx : Passes (L2.CX X.prog X.w) X E) (ha : PA X (e :: es) t) (hk : k + 1 ≤ j := by decide) (hg : Gl X C := by rfl) (hdb : (C == ("__debug__" : Str)) = false := by decide)
    (he : starEach (e :: es) X.env = (false, eval e X.env) :: starEach es X.env := by rfl) (hpl : (backTo pos (starEach es X.env)).any (·.1) = false := by rfl) : PE X (.Call (.Name C p) (e :: es) [] pos) (tMake (He.ga X.K C) sp [] E t) := by
  obtain ⟨fd, ps, F, h1, h2, h3⟩ := g.ex
  exact pe_make h1 F (hr.mono hk) hg h2 h3 .nil hx ha hdb he hpl
theorem pe_gk0 (g : Gk X.prog X.w X.K X.mg X.base k C sp) (hr : Room j X.A) (hx : Passes (L2.CX X.prog X.w) X E) (hk : k + 1 ≤ j := by decide) (hg : Gl X C := by rfl) (hdb : (C == ("__debug__" : Str)) = false := by decide) :
    PE X (.Call (.Name C p) [] [] pos) (tMake (He.ga X.K C) sp [] E tNil) := by
  obtain ⟨fd, ps, F, h1, h2, h3⟩ := g.ex
  exact pe_make0 h1 F (hr.mono hk) hg h2 h3 .nil hx hdb
/-- o.m(), o an instance of one of several classes -/
theorem pe_poly {cs : List (Str × Sp)} {pl : Sem Bool} (gs : ∀ q ∈ cs, Gm X.prog X.w X.K X.mg X.base k q.1 m q.2) (hr : Room j X.A) (hx : Passes (L2.CX X.prog X.w) X E) (ho : PE X o ta) (hk : k ≤ j := by decide)
    (ht : eval (.Call (.Attribute o m apos) [] [] pos) X.env = (do
      let ov ← eval o X.env
      standAt apos.atName
      let (f, first) ← holding [ov] (getMethod ov m pl)
      callWith pos f first (backTo pos (starEach [] X.env)) (backToKw pos (keywordEach [] X.env))) := by rfl) :
    PE X (.Call (.Attribute o m apos) [] [] pos) (fun σ H Q => ta σ H fun y H1 => ∃ q ∈ cs, ∃ a dx fs, y = .ref a ∧ H1 a = some (.ins (He.ga X.K q.1) dx fs) ∧ fs.lookup m = none ∧ q.2 [y] H1 Q E) := by
  refine ⟨fun pins s σ H Q inv hq => ?_⟩
  refine PySem.W.methodCall_KW (pl := pl) (thn (ho.run pins s σ H _ inv hq) fun u s1 hu => ?_) ht
  obtain ⟨y, H1, inv1, ry, q, hm, a, dx, fs, ey, ea, hl, hs⟩ := hu
  subst ey
  have eu : u = Value.ref a := ry
  subst eu
  obtain ⟨fd, ps, F, h1, h2, h3⟩ := (gs q hm).ex
  refine getmeth_ok inv1 ea h1 h2 hl ?_
  exact PySem.W.callWith_K0 (first := [.ref a]) inv1.kIn h2.kp (run_fn (us := [.ref a]) (vs := [.ref a]) F (hr.mono hk) h3 .nil hx inv1 (.cons rfl .nil) hs)
/-- o.m(e, ..) whose exceptions are wished at this frame's slots (a try's body) -/
def tMethAt (C : Addr) (m : Str) (sp : Sp) (E : L2.St → XK) (ta : TE) (t : TA) : TE := fun σ H Q => ta σ H fun y H1 => ∃ a dx fs, y = .ref a ∧ H1 a = some (.ins C dx fs) ∧ fs.lookup m = none ∧ t σ H1 fun vs H2 => sp (y :: vs) H2 Q (E σ)
theorem pe_gmAt {pl : Sem Bool} {E : L2.St → XK} (g : Gm X.prog X.w X.K X.mg X.base k C m sp) (hr : Room j X.A) (hx : ∀ σ, PassesAt (L2.CX X.prog X.w) X σ (E σ)) (ho : PE X o ta) (ha : PA X (e :: es) t) (hk : k ≤ j := by decide)
    (hst : starEach (e :: es) X.env = (false, eval e X.env) :: starEach es X.env := by rfl) (hpl : (backTo pos (starEach es X.env)).any (·.1) = false := by rfl)
    (ht : eval (.Call (.Attribute o m apos) (e :: es) [] pos) X.env = (do
      let ov ← eval o X.env
      standAt apos.atName
      let (f, first) ← holding [ov] (getMethod ov m pl)
      callWith pos f first (backTo pos (starEach (e :: es) X.env)) (backToKw pos (keywordEach [] X.env))) := by rfl) : PE X (.Call (.Attribute o m apos) (e :: es) [] pos) (tMethAt (He.ga X.K C) m sp E ta t) := by
  obtain ⟨fd, ps, F, h1, h2, h3⟩ := g.ex
  refine ⟨fun pins s σ H Q inv hq => ?_⟩
  refine PySem.W.methodCall_KW (pl := pl) (thn (ho.run pins s σ H _ inv hq) fun u s1 hu => ?_) ht
  obtain ⟨y, H1, inv1, ry, a, dx, fs, ey, ea, hl, hs⟩ := hu
  subst ey
  have eu : u = Value.ref a := ry
  subst eu
  refine getmeth_ok inv1 ea h1 h2 hl ?_
  refine PySem.W.callWith_K (first := [.ref a]) (h₀ := X.base) inv1.ok.mod.kin h2.kp (thn (ha.run pos pins s1 σ H1 _ inv1 hs) fun us s2 hv => ?_) hst hpl
  obtain ⟨vs, H2, inv2, rr, q2⟩ := hv
  exact ⟨inv2.kIn, run_fnS (us := .ref a :: us) (vs := .ref a :: vs) (E := E) F (hr.mono hk) h3 (hx σ) inv2 (.cons rfl rr) q2⟩
theorem pe_gAt {E : L2.St → XK} (g : Go X.prog X.w X.K X.mg X.base k x sp) (hr : Room j X.A) (hx : ∀ σ, PassesAt (L2.CX X.prog X.w) X σ (E σ)) (ha : PA X (e :: es) t) (hk : k ≤ j := by decide) (hg : Gl X x := by rfl) (hdb : (x == ("__debug__" : Str)) = false := by decide)
    (he : starEach (e :: es) X.env = (false, eval e X.env) :: starEach es X.env := by rfl) (hpl : (backTo pos (starEach es X.env)).any (·.1) = false := by rfl) : PE X (.Call (.Name x p) (e :: es) [] pos) (tCallS sp E t) := by
  obtain ⟨fd, ps, F, h1, h2, h3⟩ := g.ex
  exact pe_callS F (hr.mono hk) hg h1 h2 h3 hx ha hdb he hpl
/-- raise X('..'), X one of the refusals -/
theorem ps_rs {W : WX} {z : Str} {i : Nat} {p2 pos' : Pos} (c : Ct X.K X.mg) (tk : Takes X W) (hx : isExc x = true := by decide +kernel) (hg1 : isGlo x = true := by decide +kernel) (hc : X.calm = true := by rfl) (hg : Gl X x := by rfl) (hdb : (x == ("__debug__" : Str)) = false := by decide) :
    PS X (.Raise (some (.Call (.Name x p) [.Constant (.str z) i p2] [] pos)) none pos') (fun _ σ H => W (.ref (He.ga X.K x)) none σ H) := by
  obtain ⟨h1, h2, h3, h4⟩ := c.exc x hx
  exact ps_raise hc tk (pmk_own PySem.F.excBase_ValueError h1 (c.glo x hg1) h2 (raises_own h3 h4) hg hdb)
end
end K38
namespace K38
open PySem PySem.Spec PyProof.Rows L2
/-! ### a caught exception kept by a name -/
/-- an exception of the class cls stands at a -/
def ExH (cls : Value) (d : Option Addr) (a : Addr) : HO := .ext fun h => ∃ (oe : Obj) (vs : Array Value), h.get? a = some oe ∧ Zc cls d oe ∧ oe.data = .fields vs
theorem exH_ok {P : Program} {w : World} {H : Hp} {h : Heap} {a : Addr} {cls : Value} {d : Option Addr} {oe : Obj} {vs : Array Value} (e : h.get? a = some oe) (z : Zc cls d oe) (hd : oe.data = .fields vs) : ObjOk P w H h a (ExH cls d a) :=
  ⟨⟨oe, vs, e, z, hd⟩, ⟨oe, e⟩, fun _ _ ⟨o, v, q, r⟩ k => ⟨o, v, k o q, r⟩⟩
section
variable {X : Cx} {pins : List (Addr × Obj)} {σ : L2.St} {H : Hp} {s : Shared}
/-- an object that came since the entry and is not tracked is tracked from here on -/
theorem track {a : Addr} {o : HO} {oe : Obj} {vs : Array Value} (inv : Inv X pins σ H s) (ha : s.heap.get? a = some oe) (hd : oe.data = .fields vs) (na : H a = none) (n0 : X.s_0.heap.get? a = none) (nL : a ≠ X.env.locals) (np : ∀ p ∈ X.pn ++ pins, p.1 ≠ a)
    (new : ObjOk X.prog X.w (upd H a o) s.heap a o) : Inv X pins σ (upd H a o) s := by
  have n1 : ∀ b u, X.s_0.heap.get? b = some u → b ≠ a := fun b u e z => by
    rw [z, n0] at e
    cases e
  have n2 : ∀ b u, H b = some u → b ≠ a := fun b u e z => by
    rw [z, na] at e
    cases e
  refine ⟨inv.ok, inv.os, inv.bare, ⟨inv.base.keep, inv.base.slot, fun b u e n hx => ?_, inv.base.there, fun b xs e => ?_, fun b u xs e => ?_, fun b ps e => ?_⟩, inv.loc, inv.cell, ?_, fun y cc e => ?_, fun p hp => ?_, inv.hok.laidN (fun _ _ z => z) na new, inv.len⟩
  · rw [upd_ne (n1 b u e)]
    exact inv.base.free b u e n hx
  · have q := inv.base.tups b xs e
    rw [upd_ne (n2 b _ q)]
    exact q
  · have q := inv.base.frzs b u xs e
    rw [upd_ne (n2 b _ q)]
    exact q
  · obtain ⟨m, q⟩ := inv.base.tbls b ps e
    exact ⟨m, by rw [upd_ne (n2 b _ q)]; exact q⟩
  · rw [upd_ne (Ne.symm nL)]
    exact inv.free
  · have q : cc ≠ a := fun z => by
      obtain ⟨v, u, hu, hv⟩ := inv.cell y cc e
      rw [z, ha] at hu
      cases hu
      rw [hd] at hv
      cases hv
    rw [upd_ne q]
    exact inv.freeC y cc e
  · obtain ⟨q1, q2, q3, q4, q5⟩ := inv.pin p hp
    exact ⟨q1, by rw [upd_ne (np p hp)]; exact q2, q3, q4, q5⟩
end
/-- the wish of «except x as n: y = n»: slot i is n's, slot j is y's -/
def wCa (K : PySem.W.Frag) (c : Value) (i j : Nat) (D : Ends) : WX := fun cls d σ H => PySem.W.exmOne K cls c = some true ∧ ∀ a, H a = none → D.nx (((σ.set i (some (.ref a))).set j (some (.ref a))).set i none) (upd H a (ExH cls d a))
section
variable {X : Cx} {x n y : Str} {c : Value} {i j : Nat} {body : List Stmt} {np pos pos' p1 p2 p3 : Pos} {tb : WX → TS}
theorem ps_try_ca (hs : X.stack = X.env :: X.outer) (hf : X.env.frame = some X.env.locals) (hex : X.ex = []) (hN : X.N.Nodup) (hi : X.N[i]? = some n) (hj : X.N[j]? = some y) (hij : i ≠ j) (hln : X.env.kindOf n = some .local) (hly : X.env.kindOf y = some .local) (hc : Names X x c)
    (hdb : (n == ("__debug__" : Str)) = false := by decide) (hdc : (n == ("__classdict__" : Str)) = false := by decide)
    (hb : ∀ (W : WX) (pn : List (Addr × Obj)) (xe : Value → Shared → Prop), Takes (X.tr pn xe) W → PassesOwn (model X.prog X.w) X.A X.env xe → PSs (X.tr pn xe) body (tb W)) :
    PS X (.Try body [.ExceptHandler (some (.Name x np)) (some n) [.Assign [.Name y p1] (.Name n p2) p3] pos'] [] [] pos) (fun D σ H => tb (wCa X.K c i j D) D σ H) := by
  refine ⟨fun pins s σ H D inv hq => ?_⟩
  have ok := inv.ok
  have hfr : X.A.frames = some (X.env :: X.outer) := by rw [ok.frames, hs]
  refine wpAny_Try_except ?_
  have look := hb (wCa X.K c i j D) (X.pn ++ pins) (fun e s₁ => wpAny (model X.prog X.w) X.A (noteFrame e X.env) (fun _ s₂ => wpAny (model X.prog X.w) X.A (setFlight e none) (fun _ s₃ =>
    wpAny (model X.prog X.w) X.A (handleBy e X.env [.ExceptHandler (some (.Name x np)) (some n) [.Assign [.Name y p1] (.Name n p2) p3] pos']) (SP X pins D) X.xe s₃) X.xe s₂) X.xe s₁) (fun u s' air => ?_) PassesOwn.looking
  · refine wpAny_mono (look.run [] s σ H D (inv.toTry _) hq) (fun f s1 hsp => ?_) (fun e s1 he => he)
    cases f with
    | next =>
      obtain ⟨σ', H', J, q⟩ := hsp
      exact wpAny_execs_nil ⟨σ', H', J.ofTry ok, q⟩
    | brk =>
      obtain ⟨σ', H', J, q⟩ := hsp
      exact ⟨σ', H', J.ofTry ok, q⟩
    | cont =>
      obtain ⟨σ', H', J, q⟩ := hsp
      exact ⟨σ', H', J.ofTry ok, q⟩
    | ret u =>
      obtain ⟨v, σ', H', J, r, q⟩ := hsp
      exact ⟨v, σ', H', J.ofTry ok, r, q⟩
  · obtain ⟨a, B, sI, pins', σ', H', cls, d, rfl, J', nb, up, sky, na, hos, ag, hb1, hyes⟩ := air
    have J : Inv X pins σ' H' sI := J'.ofTry ok
    have sky' : Sky B (X.env :: X.outer) a (Zc cls d) X.env.locals s'.heap := by rw [← hs]; exact sky
    show wpAny (model X.prog X.w) X.A (noteFrame (.ref a) X.env) _ _ _
    refine Sky.land Zc.steady hfr hf sky' fun h3 fl3 up3 => ?_
    have J3 : Inv X pins σ' H' { s' with heap := h3 } := J.landed nb fl3.1 (up.trans up3) hos ag
    obtain ⟨oe3, vs3, he3, hz3, hd3⟩ := fl3.there
    have nfr : a ∉ frs (X.env :: X.outer) := fun hm => by
      obtain ⟨_, o', e', hnf⟩ := fl3.2.2.1.mem hm
      rw [he3] at e'
      cases e'
      exact hnf _ hd3
    have nL : a ≠ X.env.locals := fun z => nfr (List.mem_filterMap.mpr ⟨X.env, List.mem_cons_self, by rw [hf, z]⟩)
    have nF : a ∉ X.fs := fun hm => by
      obtain ⟨e, he, q⟩ := List.mem_filterMap.mp hm
      exact nfr (List.mem_filterMap.mpr ⟨e, List.mem_cons_of_mem _ he, q⟩)
    have nI : sI.heap.get? a = none := by
      cases q : sI.heap.get? a with
      | none => rfl
      | some o =>
        have z := nb a o q (by rw [hs]; exact nfr)
        rw [fl3.2.1] at z
        cases z
    have n0 : X.s_0.heap.get? a = none := by
      cases q : X.s_0.heap.get? a with
      | none => rfl
      | some o =>
        obtain ⟨o', z⟩ := J.base.there a o q (by rw [hex]; exact fun z => nomatch z)
        rw [nI] at z
        cases z
    have npin : ∀ p ∈ X.pn ++ pins, p.1 ≠ a := fun p hp z => by
      have q := (J.pin p hp).1
      rw [z, nI] at q
      cases q
    have S3 := J3.suite he3 hd3 na nL nF
    refine wpAny_handleBy_cons (codeAny_handlers_test ?_) (by intro q; cases q)
    have LT : PySem.W.Looks (model X.prog X.w) h3 (typeOf (.ref a)) cls := fun A Q E s k q => wpAny_typeOf_ref (k _ _ he3) (by rw [hz3.1]; exact q)
    have LM := PySem.W.exm_one (M := model X.prog X.w) (J3.kIn) LT hb1
    have test : ∀ {Q : Value → Shared → Prop} {E : Value → Shared → Prop}, Q c { s' with heap := h3 } → wpAny (model X.prog X.w) (X.A.mark (some (.ref a))) (eval (.Name x np) X.env) Q E { s' with heap := h3 } := fun {Q E} q => by
      obtain ⟨hg, hdbg, hm | ⟨hm, hv, hnn⟩⟩ := hc
      · exact ld_glob (X := X.suite a ((a, oe3) :: (X.pn ++ pins))) S3 hg hm q hdbg
      · exact ld_blt (X := X.suite a ((a, oe3) :: (X.pn ++ pins))) S3 hg hm hv q hnn hdbg
    refine test (LM.here ?_)
    refine codeAny_handlers_suite_as ?_
    refine HandSPX.lands_againZ fl3 fun h4 fl4 up4 => ?_
    have J4 : Inv X pins σ' H' { s' with heap := h4 } := J.landed nb fl4.1 ((up.trans up3).trans up4) hos ag
    obtain ⟨oe4, vs4, he4, hz4, hd4⟩ := fl4.there
    have S4 := J4.suite he4 hd4 na nL nF
    refine store_ok (X := X.suite a ((a, oe4) :: (X.pn ++ pins))) (v := .ref a) S4 hN hi (.inl hln) rfl (fun s5 S5 => ?_) (.inr hln)
    have suite : PSs (X.suite a ((a, oe4) :: (X.pn ++ pins))) [.Assign [.Name y p1] (.Name n p2) p3] (tAsg (tVar i) (gName j)) := pss_one (ps_asg (pe_var hi (.inl hln) hdb hdc) (pg_name (i := j) hN hj (.inl hly) (.inr hly)))
    have hi2 : i < σ'.length := by
      rw [J4.len]
      exact (List.getElem?_eq_some_iff.mp hi).1
    refine wpAny_mono (suite.run [] s5 _ H' { nx := fun σ6 H6 => σ6 = (σ'.set i (some (V.ref a))).set j (some (V.ref a)) ∧ H6 = H', rt := fun _ _ => False } S5 ⟨V.ref a, List.getElem?_set_self hi2, rfl, rfl⟩) (fun f s6 hsp => ?_) (fun _ _ z => False.elim z)
    cases f with
    | next =>
      obtain ⟨σ6, H6, S6, e1, e2⟩ := hsp
      subst e1 e2
      obtain ⟨hp6, _⟩ := S6.pin (a, oe4) (List.mem_append_left _ List.mem_cons_self)
      have J6 : Inv X pins ((σ'.set i (some (V.ref a))).set j (some (V.ref a))) (upd H6 a (ExH cls d a)) s6 := track (S6.unsuite ok) hp6 hd4 na n0 nL npin (exH_ok hp6 hz4 hd4)
      exact gone_ok J6 hN hi hln fun s7 J7 => ⟨_, _, J7, hyes a na⟩
    | brk =>
      obtain ⟨σ6, H6, S6, q6⟩ := hsp
      exact q6.elim
    | cont =>
      obtain ⟨σ6, H6, S6, q6⟩ := hsp
      exact q6.elim
    | ret u =>
      obtain ⟨v6, σ6, H6, S6, r6, q6⟩ := hsp
      exact q6.elim
end
/-- isinstance(e, c), e a kept exception -/
def rIsX (K : PySem.W.Frag) : List V → Hp → VK → Prop := fun xs H Q => ∃ (a D : Addr) (c : V) (cv : Value) (b : Bool), xs = [.ref a, c] ∧ H a = some (ExH (.ref D) none a) ∧ ExcC K D ∧ (∀ u, RelV c u → u = cv) ∧ PySem.W.kitOne K (.ref D) cv = some b ∧ Q (.bl b) H
theorem call_isX {X : Cx} : CallR X (.builtin "isinstance") (rIsX X.K) := by
  intro pins s σ H xs us Q inv r hq
  obtain ⟨a, D, c, cv, b, rfl, ha, C, hcv, e, q⟩ := hq
  obtain ⟨u1, u2, rfl, r1, r2⟩ := vals2 r
  have e1 : u1 = Value.ref a := r1
  subst e1
  have e2 := hcv u2 r2
  subst e2
  obtain ⟨⟨oe, vs, hget, hz, hd⟩, _, _⟩ := inv.hok a _ ha
  have J : PySem.W.InstAt s.heap a oe D none := by
    obtain ⟨oc, od, oda, osl⟩ := oe
    obtain ⟨h1, h2⟩ := hz
    dsimp only at h1 h2 hd
    subst h1 h2 hd
    exact ⟨hget, rfl, rfl, trivial⟩
  exact PySem.W.kia_one (PySem.W.handS_kitx_exc C.hg C.hk C.hs C.hd C.ha C.hn C.ht C.hm) inv.kIn J e (fun z => nomatch z) fun tk => ⟨.bl b, H, inv.tok tk, rfl, q⟩
/-! ### a slice with a step: some of the items -/
theorem pick_mem {its : List Value} {xs : List V} (r : Vals xs its) : ∀ l : List Nat, ∃ ys : List V, Vals ys (l.filterMap (its[·]?)) ∧ ∀ y ∈ ys, y ∈ xs
  | [] => ⟨[], .nil, fun _ h => nomatch h⟩
  | i :: l => by
    obtain ⟨ys, h1, h2⟩ := pick_mem r l
    rw [List.filterMap_cons]
    cases e : its[i]? with
    | none => exact ⟨ys, h1, h2⟩
    | some u =>
      have hl : i < its.length := (List.getElem?_eq_some_iff.mp e).1
      have hx : i < xs.length := by
        rw [r.length]
        exact hl
      obtain ⟨u', e', ru⟩ := Vals.get r (List.getElem?_eq_getElem hx)
      rw [e] at e'
      cases e'
      refine ⟨xs[i] :: ys, .cons ru h1, fun y hy => ?_⟩
      rcases List.mem_cons.mp hy with rfl | hy
      · exact List.getElem_mem hx
      · exact h2 y hy
def tSl3 (K : PySem.W.Frag) (te : TE) (tl th ts : TO) : TE := fun σ H Q => te σ H fun x H1 => tl σ H1 fun l H2 => th σ H2 fun u H3 => ts σ H3 fun st H4 => st ≠ some 0 ∧ ∃ a xs, x = .ref a ∧ SqL K H4 a xs ∧
  ∀ (ys : List V) (p : Addr), ys.length ≤ xs.length → (∀ y ∈ ys, y ∈ xs) → H4 p = none → Q (.ref p) (upd H4 p (.lst ys))
theorem pe_slice3 {X : Cx} {e : Expr} {lo hi : Option Expr} {st : Expr} {te : TE} {tl th ts : TO} {p2 pos : Pos} (he : PE X e te) (hl : PO X lo tl) (hu : PO X hi th) (hst : PO X (some st) ts)
    (hsub : ∀ v u : Value, subscripted (.Slice lo hi (some st) p2) false v u = operate [v, u] (getItem v u) := by intro _ _; with_unfolding_all rfl) : PE X (.Subscript e (.Slice lo hi (some st) p2) pos) (tSl3 X.K te tl th ts) := by
  refine ⟨fun pins s σ H Q inv hq => ?_⟩
  refine Subscript_ (thn (he.run pins s σ H _ inv hq) fun v s1 hv => ?_)
  obtain ⟨x, H1, inv1, r1, q1⟩ := hv
  refine wpAny_Slice (thn (hl.run pins s1 σ H1 _ inv1 q1) fun vl s2 hv => ?_)
  obtain ⟨l, H2, inv2, pl, q2⟩ := hv
  refine thn (hu.run pins s2 σ H2 _ inv2 q2) fun vu s3 hv => ?_
  obtain ⟨u, H3, inv3, pu, q3⟩ := hv
  refine thn (hst.run pins s3 σ H3 _ inv3 q3) fun vs s4 hv => ?_
  obtain ⟨o, H4, inv4, ps, hne, a, xs, ex, hx, q⟩ := hv
  subst ex
  have ev : v = Value.ref a := r1
  subst ev
  have inv5 : Inv X pins σ H4 { s4 with heap := s4.heap.push { cls := .type "slice", data := .fields #[vl, vu, vs] } } := inv4.kept (t' := s4.toks) fun b ob q => Heap.get?_push_of_some _ q
  obtain ⟨its, r, ht, hz⟩ := inv5.list hx
  have hlen := r.length
  show wpAny (model X.prog X.w) X.A (subscriptTail e (.Slice lo hi (some st) p2) (.ref a) (.ref s4.heap.objs.size)) (EP X pins σ Q) X.xe { s4 with heap := s4.heap.push { cls := .type "slice", data := .fields #[vl, vu, vs] } }
  refine tail_any (ops := [.ref a, .ref s4.heap.objs.size]) ht.isList.typeIs (PySem.slot_list_getitem.lookup) ?_ (hsub _ _)
  refine wpAny_getItem_list_slice ht.isList (Heap.IsSliceOf.new _ vl vu vs) pl pu ps hne ?_ (by rw [List.size_toArray]; omega)
  have hk : (slicePick its.toArray l u o).toList = (sliceRange (sliceBounds l u o its.toArray.size).1 (sliceBounds l u o its.toArray.size).2.1 (sliceBounds l u o its.toArray.size).2.2).filterMap (its[·]?) := by
    unfold slicePick
    simp
  obtain ⟨ys, ry, my⟩ := pick_mem r (sliceRange (sliceBounds l u o its.toArray.size).1 (sliceBounds l u o its.toArray.size).2.1 (sliceBounds l u o its.toArray.size).2.2)
  rw [← hk] at ry
  have hsz := slicePick_size_le its.toArray l u o
  have hyl : ys.length ≤ xs.length := by
    rw [ry.length, Array.length_toList, hlen]
    simpa using hsz
  refine ⟨.ref _, _, inv5.laid (t' := s4.toks) (o := .lst ys) (fun b ob q => Heap.get?_push_of_some _ q) (Nat.le_refl _) ?_, rfl, q ys _ hyl my (inv5.hok.fresh (Nat.le_refl _))⟩
  refine ⟨Nat.le_trans hyl hz, (slicePick its.toArray l u o).toList, 0, ry, ?_⟩
  exact Heap.get?_push_size _ rfl
end K38
namespace K38
open PySem PySem.Spec PyProof.Rows L2
/-! ### whole numbers from nought -/
/-- without the bits of m; with the bits of m turned -/
def clrN (n m : Nat) : Nat := n - (n &&& m)
def togN (n m : Nat) : Nat := (n ||| m) - (n &&& m)
theorem band_nat (a b : Nat) : Builtin.bitAnd (a : Int) (b : Int) = ((a &&& b : Nat) : Int) := by
  unfold Builtin.bitAnd
  rw [decide_eq_true (Int.natCast_nonneg a), decide_eq_true (Int.natCast_nonneg b)]
  show (((a : Int).toNat &&& (b : Int).toNat : Nat) : Int) = _
  rw [Int.toNat_natCast, Int.toNat_natCast]
theorem bor_nat (a b : Nat) : Builtin.bitOr (a : Int) (b : Int) = ((a ||| b : Nat) : Int) := by
  rw [bitOr_nn (Int.natCast_nonneg a) (Int.natCast_nonneg b), Int.toNat_natCast, Int.toNat_natCast]
theorem and_le_or (a b : Nat) : a &&& b ≤ a ||| b := Nat.le_trans Nat.and_le_left Nat.left_le_or
theorem bxor_nat (a b : Nat) : Builtin.bitXor (a : Int) (b : Int) = ((togN a b : Nat) : Int) := by
  unfold Builtin.bitXor togN
  rw [bor_nat, band_nat]
  have := and_le_or a b
  omega
theorem bclr_nat (a b : Nat) : Builtin.bitAnd (a : Int) (Builtin.bitNot (b : Int)) = ((clrN a b : Nat) : Int) := by
  have h : Builtin.bitNot (b : Int) < 0 := by unfold Builtin.bitNot; omega
  have h2 : Builtin.bitNot (Builtin.bitNot (b : Int)) = (b : Int) := by unfold Builtin.bitNot; omega
  unfold Builtin.bitAnd clrN
  rw [decide_eq_true (Int.natCast_nonneg a), decide_eq_false (show ¬ 0 ≤ Builtin.bitNot (b : Int) by omega)]
  show (a : Int) - (((a : Int).toNat &&& (Builtin.bitNot (Builtin.bitNot (b : Int))).toNat : Nat) : Int) = _
  rw [h2, Int.toNat_natCast, Int.toNat_natCast]
  have := Nat.and_le_left (n := a) (m := b)
  omega
theorem tog_lt {n m k : Nat} (h1 : n < 2 ^ k) (h2 : m < 2 ^ k) : togN n m < 2 ^ k := Nat.lt_of_le_of_lt (Nat.sub_le _ _) (Nat.or_lt_two_pow h1 h2)
theorem clr_lt {n m k : Nat} (h1 : n < 2 ^ k) : clrN n m < 2 ^ k := Nat.lt_of_le_of_lt (Nat.sub_le _ _) h1
theorem bit_val (n k : Nat) : n / 2 ^ k % 2 = (n.testBit k).toNat := by
  rw [Nat.testBit_eq_decide_div_mod_eq]
  by_cases h : n / 2 ^ k % 2 = 1
  · rw [h]
    rfl
  · have : n / 2 ^ k % 2 = 0 := by omega
    rw [this]
    rfl
section
variable {X : Cx}
theorem opn_and : OpR X (binaryOp .BitAnd) (fun x y H Q => ∃ n m : Nat, x = .int (n : Int) ∧ y = .int (m : Int) ∧ Q (.int ((n &&& m : Nat) : Int)) H) := by
  intro pins s σ H x y v u Q inv rx ry hq
  obtain ⟨n, m, h1, h2, q⟩ := hq
  exact op_and pins s σ H x y v u Q inv rx ry ⟨n, m, h1, h2, by show Q (V.int (Builtin.bitAnd _ _)) H; rw [band_nat]; exact q⟩
theorem opn_or : OpR X (binaryOp .BitOr) (fun x y H Q => ∃ n m : Nat, x = .int (n : Int) ∧ y = .int (m : Int) ∧ Q (.int ((n ||| m : Nat) : Int)) H) := by
  intro pins s σ H x y v u Q inv rx ry hq
  obtain ⟨n, m, h1, h2, q⟩ := hq
  exact op_or pins s σ H x y v u Q inv rx ry ⟨n, m, h1, h2, by show Q (V.int (Builtin.bitOr _ _)) H; rw [bor_nat]; exact q⟩
theorem opn_xor : OpR X (binaryOp .BitXor) (fun x y H Q => ∃ n m : Nat, x = .int (n : Int) ∧ y = .int (m : Int) ∧ Q (.int ((togN n m : Nat) : Int)) H) := by
  intro pins s σ H x y v u Q inv rx ry hq
  obtain ⟨n, m, h1, h2, q⟩ := hq
  exact op_xor pins s σ H x y v u Q inv rx ry ⟨n, m, h1, h2, by show Q (V.int (Builtin.bitXor _ _)) H; rw [bxor_nat]; exact q⟩
/-- a & ~b -/
theorem opn_clr : OpR X (binaryOp .BitAnd) (fun x y H Q => ∃ n m : Nat, x = .int (n : Int) ∧ y = .int (Builtin.bitNot (m : Int)) ∧ Q (.int ((clrN n m : Nat) : Int)) H) := by
  intro pins s σ H x y v u Q inv rx ry hq
  obtain ⟨n, m, h1, h2, q⟩ := hq
  exact op_and pins s σ H x y v u Q inv rx ry ⟨n, _, h1, h2, by show Q (V.int (Builtin.bitAnd _ _)) H; rw [bclr_nat]; exact q⟩
/-- 1 << k -/
theorem opn_one : OpR X (binaryOp .LShift) (fun x y H Q => ∃ k : Nat, x = .int 1 ∧ y = .int (k : Int) ∧ k ≤ 1000 ∧ Q (.int ((2 ^ k : Nat) : Int)) H) := by
  intro pins s σ H x y v u Q inv rx ry hq
  obtain ⟨k, h1, h2, h3, q⟩ := hq
  refine op_shl pins s σ H x y v u Q inv rx ry ⟨1, (k : Int), h1, h2, ⟨by omega, by omega, by decide⟩, ?_⟩
  have e : (1 : Int) * 2 ^ (k : Int).toNat = ((2 ^ k : Nat) : Int) := by
    rw [Int.one_mul, Int.toNat_natCast]
    exact (Int.natCast_pow 2 k).symm
  show Q (V.int ((1 : Int) * 2 ^ (k : Int).toNat)) H
  rw [e]
  exact q
theorem opn_shr : OpR X (binaryOp .RShift) (fun x y H Q => ∃ n k : Nat, x = .int (n : Int) ∧ y = .int (k : Int) ∧ Q (.int ((n / 2 ^ k : Nat) : Int)) H) := by
  intro pins s σ H x y v u Q inv rx ry hq
  obtain ⟨n, k, h1, h2, q⟩ := hq
  refine op_shr pins s σ H x y v u Q inv rx ry ⟨(n : Int), (k : Int), h1, h2, by omega, ?_⟩
  have e : (n : Int) / 2 ^ (k : Int).toNat = ((n / 2 ^ k : Nat) : Int) := by
    rw [Int.toNat_natCast, Int.natCast_ediv, Int.natCast_pow]
    rfl
  show Q (V.int ((n : Int) / 2 ^ (k : Int).toNat)) H
  rw [e]
  exact q
theorem opn_odd : OpR X (binaryOp .BitAnd) (fun x y H Q => ∃ n : Nat, x = .int (n : Int) ∧ y = .int 1 ∧ Q (.int ((n % 2 : Nat) : Int)) H) := by
  intro pins s σ H x y v u Q inv rx ry hq
  obtain ⟨n, h1, h2, q⟩ := hq
  refine op_and pins s σ H x y v u Q inv rx ry ⟨(n : Int), 1, h1, h2, ?_⟩
  have e : Builtin.bitAnd (n : Int) 1 = ((n % 2 : Nat) : Int) := by
    have h := band_nat n 1
    rw [Nat.and_one_is_mod] at h
    exact h
  show Q (V.int (Builtin.bitAnd (n : Int) 1)) H
  rw [e]
  exact q
/-- a >> b & 1 -/
def tBitV (ta tb : TE) : TE := fun σ H Q => ta σ H fun x H1 => tb σ H1 fun y H2 => ∃ n k : Nat, x = .int (n : Int) ∧ y = .int (k : Int) ∧ Q (.int (((n.testBit k).toNat : Nat) : Int)) H2
theorem pe_bit {a b : Expr} {ta tb : TE} {i : Nat} {p1 p2 p3 : Pos} (ha : PE X a ta) (hb : PE X b tb) : PE X (.BinOp (.BinOp a .RShift b p1) .BitAnd (.Constant (.int 1) i p2) p3) (tBitV ta tb) := by
  have q1 : PE X (.BinOp a .RShift b p1) (fun σ H Q => ta σ H fun x H1 => tb σ H1 fun y H2 => ∃ n k : Nat, x = .int (n : Int) ∧ y = .int (k : Int) ∧ Q (.int ((n / 2 ^ k : Nat) : Int)) H2) := pe_op opn_shr ha hb
  refine ⟨fun pins s σ H Q inv hq => ?_⟩
  refine wpAny_BinOp (wpAny_BinOp (bin ha hb inv hq fun v u s2 x y H2 inv2 rx ry q => ?_))
  obtain ⟨n, k, h1, h2, q⟩ := q
  refine thn (opn_shr pins s2 σ H2 x y v u (fun z H3 => z = .int ((n / 2 ^ k : Nat) : Int) ∧ H3 = H2) inv2 rx ry ⟨n, k, h1, h2, rfl, rfl⟩) fun z s3 hz => ?_
  obtain ⟨zv, H3, inv3, rz, e1, e2⟩ := hz
  subst e1 e2
  refine thn ((pe_int (X := X) (i := 1) (j := i) (pos := p2)).run pins s3 σ H3 (fun c H4 => c = .int 1 ∧ H4 = H3) inv3 ⟨rfl, rfl⟩) fun c s4 hc => ?_
  obtain ⟨cv, H4, inv4, rc, e1, e2⟩ := hc
  subst e1 e2
  refine opn_odd pins s4 σ H4 _ _ z c Q inv4 rz rc ⟨n / 2 ^ k, rfl, rfl, ?_⟩
  rw [bit_val]
  exact q
/-- .. == 1 as a test, .. == 0 -/
def tBit (ta tb : TE) : TT := fun σ H Q => tBitV ta tb σ H fun v H1 => ∃ b : Bool, v = .int ((b.toNat : Nat) : Int) ∧ Q b H1
def tBit0 (ta tb : TE) : TT := fun σ H Q => tBitV ta tb σ H fun v H1 => ∃ b : Bool, v = .int ((b.toNat : Nat) : Int) ∧ Q (!b) H1
theorem opn_eq1 : OpR X (compareOp .Eq) (fun x y H Q => ∃ b : Bool, x = .int ((b.toNat : Nat) : Int) ∧ y = .int 1 ∧ Q (.bl b) H) := by
  intro pins s σ H x y v u Q inv rx ry hq
  obtain ⟨b, h1, h2, q⟩ := hq
  subst h1 h2
  refine op_eq pins s σ H _ _ v u Q inv rx ry ⟨rfl, ?_⟩
  cases b
  · exact q
  · exact q
theorem opn_eq0 : OpR X (compareOp .Eq) (fun x y H Q => ∃ b : Bool, x = .int ((b.toNat : Nat) : Int) ∧ y = .int 0 ∧ Q (.bl (!b)) H) := by
  intro pins s σ H x y v u Q inv rx ry hq
  obtain ⟨b, h1, h2, q⟩ := hq
  subst h1 h2
  refine op_eq pins s σ H _ _ v u Q inv rx ry ⟨rfl, ?_⟩
  cases b
  · exact q
  · exact q
theorem pt_bit {a b : Expr} {ta tb : TE} {i j : Nat} {p1 p2 p3 p4 p5 : Pos} (ha : PE X a ta) (hb : PE X b tb) : PT X (.Compare (.BinOp (.BinOp a .RShift b p1) .BitAnd (.Constant (.int 1) i p2) p3) [.Eq] [.Constant (.int 1) j p4] p5) (tBit ta tb) := by
  refine ⟨fun pins s σ H Q inv hq => ?_⟩
  refine wpAny_isTrue_Compare1 (thn ((pe_bit ha hb).run pins s σ H _ inv hq) fun z s3 hz => ?_) (nomark _)
  obtain ⟨zv, H3, inv3, rz, b, e0, q⟩ := hz
  refine thn ((pe_int (X := X) (i := 1) (j := j) (pos := p4)).run pins s3 σ H3 (fun c H4 => c = .int 1 ∧ H4 = H3) inv3 ⟨rfl, rfl⟩) fun c s4 hc => ?_
  obtain ⟨cv, H4, inv4, rc, e1, e2⟩ := hc
  subst e1 e2
  refine thn (opn_eq1 pins s4 σ H4 _ _ z c (fun w H5 => w = .bl b ∧ H5 = H4) inv4 rz rc ⟨b, e0, rfl, rfl, rfl⟩) fun w s5 hw => ?_
  obtain ⟨wv, H5, inv5, rw5, e1, e2⟩ := hw
  subst e1 e2
  cases rw5
  exact wpAny_truthy_bool ⟨H5, inv5, q⟩
theorem pt_bit0 {a b : Expr} {ta tb : TE} {i j : Nat} {p1 p2 p3 p4 p5 : Pos} (ha : PE X a ta) (hb : PE X b tb) : PT X (.Compare (.BinOp (.BinOp a .RShift b p1) .BitAnd (.Constant (.int 1) i p2) p3) [.Eq] [.Constant (.int 0) j p4] p5) (tBit0 ta tb) := by
  refine ⟨fun pins s σ H Q inv hq => ?_⟩
  refine wpAny_isTrue_Compare1 (thn ((pe_bit ha hb).run pins s σ H _ inv hq) fun z s3 hz => ?_) (nomark _)
  obtain ⟨zv, H3, inv3, rz, b, e0, q⟩ := hz
  refine thn ((pe_int (X := X) (i := 0) (j := j) (pos := p4)).run pins s3 σ H3 (fun c H4 => c = .int 0 ∧ H4 = H3) inv3 ⟨rfl, rfl⟩) fun c s4 hc => ?_
  obtain ⟨cv, H4, inv4, rc, e1, e2⟩ := hc
  subst e1 e2
  refine thn (opn_eq0 pins s4 σ H4 _ _ z c (fun w H5 => w = .bl (!b) ∧ H5 = H4) inv4 rz rc ⟨b, e0, rfl, rfl, rfl⟩) fun w s5 hw => ?_
  obtain ⟨wv, H5, inv5, rw5, e1, e2⟩ := hw
  subst e1 e2
  cases rw5
  exact wpAny_truthy_bool ⟨H5, inv5, q⟩
end
end K38
namespace K38
open PySem PySem.Spec PyProof.Rows L2
/-! ### switches -/
inductive Sw where
  | feed (b : Nat) | earth (b : Nat) | brk (a b : Nat) | spl (a b : Nat)
  deriving DecidableEq
def Sw.parts : Sw → List V
  | .feed b => [.str "feed", .int (b : Nat)]
  | .earth b => [.str "earth", .int (b : Nat)]
  | .brk a b => [.str "breaker", .int (a : Nat), .int (b : Nat)]
  | .spl a b => [.str "splitter", .int (a : Nat), .int (b : Nat)]
def Sw.cls : Sw → Str
  | .feed _ => "Feed"
  | .earth _ => "Earth"
  | .brk _ _ => "Breaker"
  | .spl _ _ => "Splitter"
def fl1 (b : Nat) : List (Str × V) := putF "bar" (.int (b : Nat)) []
def fl2 (a b : Nat) : List (Str × V) := putF "other" (.int (b : Nat)) (putF "one" (.int (a : Nat)) [])
def Sw.flds : Sw → List (Str × V)
  | .feed b => fl1 b
  | .earth b => fl1 b
  | .brk a b => fl2 a b
  | .spl a b => fl2 a b
def Sw.feeds : Sw → Nat
  | .feed b => 2 ^ b
  | _ => 0
def Sw.earths : Sw → Nat
  | .earth b => 2 ^ b
  | _ => 0
def Sw.joins : Sw → Nat
  | .brk a b => 2 ^ a ||| 2 ^ b
  | .spl a b => 2 ^ a ||| 2 ^ b
  | _ => 0
def Sw.gentle : Sw → Bool
  | .spl _ _ => true
  | _ => false
/-- a switch of so many bars -/
def Sw.ok (n : Nat) : Sw → Prop
  | .feed b => b < n
  | .earth b => b < n
  | .brk a b => a < n ∧ b < n ∧ a ≠ b
  | .spl a b => a < n ∧ b < n ∧ a ≠ b
theorem cls_feed {sw : Sw} (h : sw.cls = "Feed") : ∃ b, sw = .feed b := by
  cases sw with
  | feed b => exact ⟨b, rfl⟩
  | _ => exact absurd h (by simp only [Sw.cls]; decide +kernel)
theorem cls_earth {sw : Sw} (h : sw.cls = "Earth") : ∃ b, sw = .earth b := by
  cases sw with
  | earth b => exact ⟨b, rfl⟩
  | _ => exact absurd h (by simp only [Sw.cls]; decide +kernel)
theorem cls_brk {sw : Sw} (h : sw.cls = "Breaker") : ∃ a b, sw = .brk a b := by
  cases sw with
  | brk a b => exact ⟨a, b, rfl⟩
  | _ => exact absurd h (by simp only [Sw.cls]; decide +kernel)
theorem cls_spl {sw : Sw} (h : sw.cls = "Splitter") : ∃ a b, sw = .spl a b := by
  cases sw with
  | spl a b => exact ⟨a, b, rfl⟩
  | _ => exact absurd h (by simp only [Sw.cls]; decide +kernel)
theorem oo : ¬ (("one" : Str) = "other") := by decide +kernel
theorem fl1_bar (b : Nat) : (fl1 b).lookup ("bar" : Str) = some (.int (b : Nat)) := by
  unfold fl1
  rw [lookup_putF, if_pos rfl]
theorem fl2_one (a b : Nat) : (fl2 a b).lookup ("one" : Str) = some (.int (a : Nat)) := by
  unfold fl2
  rw [lookup_putF, if_neg oo, lookup_putF, if_pos rfl]
theorem fl2_other (a b : Nat) : (fl2 a b).lookup ("other" : Str) = some (.int (b : Nat)) := by
  unfold fl2
  rw [lookup_putF, if_pos rfl]
theorem flds_no (sw : Sw) {m : Str} (h1 : ¬ m = "bar") (h2 : ¬ m = "one") (h3 : ¬ m = "other") : sw.flds.lookup m = none := by
  cases sw <;> (unfold Sw.flds; first | (unfold fl1; rw [lookup_putF, if_neg h1]; rfl) | (unfold fl2; rw [lookup_putF, if_neg h3, lookup_putF, if_neg h2]; rfl))
/-- the object of a switch stands at p -/
def OAt (K : PySem.W.Frag) (H : Hp) (p : Addr) (sw : Sw) : Prop := ∃ dx, H p = some (.ins (He.ga K sw.cls) dx sw.flds)
def spO (K : PySem.W.Frag) (C : Str) (f : Sw → V) : Sp := fun vs H Q _ => ∃ (p : Addr) (sw : Sw), vs = [.ref p] ∧ sw.cls = C ∧ OAt K H p sw ∧ sw.ok 1000 ∧ Q (f sw) H
/-- the maker's promise: __init__ -/
def spI1 (K : PySem.W.Frag) (C : Str) : Sp := fun vs H Q _ => ∃ (p dx : Addr) (b : Nat), vs = [.ref p, .int (b : Nat)] ∧ H p = some (.ins (He.ga K C) dx []) ∧ Q .non (upd H p (.ins (He.ga K C) dx (fl1 b)))
def spI2 (K : PySem.W.Frag) (C : Str) : Sp := fun vs H Q _ => ∃ (p dx : Addr) (a b : Nat), vs = [.ref p, .int (a : Nat), .int (b : Nat)] ∧ H p = some (.ins (He.ga K C) dx []) ∧ Q .non (upd (upd H p (.ins (He.ga K C) dx (putF "one" (.int (a : Nat)) []))) p (.ins (He.ga K C) dx (fl2 a b)))
abbrev vFeeds : Sw → V := fun sw => .int ((sw.feeds : Nat) : Int)
abbrev vEarths : Sw → V := fun sw => .int ((sw.earths : Nat) : Int)
abbrev vJoins : Sw → V := fun sw => .int ((sw.joins : Nat) : Int)
abbrev vGentle : Sw → V := fun sw => .bl sw.gentle
section
variable {P : Program} {w : World} {K : PySem.W.Frag} {mg : Str → Option Value} {base : Heap}

theorem gm_Feed_feeds (c : Ct K mg) : Gm P w K mg base 1 "Feed" "feeds" (spO K "Feed" vFeeds) := by
  refine gm_of (d := dFeed_feeds) (N := ["self"]) (ps := ["self"]) (k := 0) c 35 rfl rfl rfl rfl ⟨rfl, rfl, rfl, by decide +kernel, rfl, by decide +kernel, by decide +kernel⟩ (fun _ _ _ _ _ _ us hl => match us, hl with | [_], _ => rfl) (fun vs H Q E h => ?_) (fun cdv A outer s H vs Q E hr h => ?_)
  · obtain ⟨p, sw, rfl, _⟩ := h
    rfl
  · obtain ⟨p, sw, rfl, hc, ⟨dx, hp⟩, hk, hq⟩ := h
    obtain ⟨b, rfl⟩ := cls_feed hc
    have hb : b < 1000 := hk
    refine ⟨_, PSs.nox (pss_one (ps_ret (pe_op opn_one pe_int (pe_fld (pv 0) rfl)))), ?_⟩
    exact ⟨_, rfl, p, _, dx, _, _, rfl, hp, c.cls "Feed", c.noat "Feed" "bar", fl1_bar b, b, rfl, rfl, by omega, hq⟩

theorem gm_Feed_earths (c : Ct K mg) : Gm P w K mg base 1 "Feed" "earths" (spO K "Feed" vEarths) := by
  refine gm_of (d := dFeed_earths) (N := ["self"]) (ps := ["self"]) (k := 0) c 36 rfl rfl rfl rfl ⟨rfl, rfl, rfl, by decide +kernel, rfl, by decide +kernel, by decide +kernel⟩ (fun _ _ _ _ _ _ us hl => match us, hl with | [_], _ => rfl) (fun vs H Q E h => ?_) (fun cdv A outer s H vs Q E hr h => ?_)
  · obtain ⟨p, sw, rfl, _⟩ := h
    rfl
  · obtain ⟨p, sw, rfl, hc, ⟨dx, hp⟩, hk, hq⟩ := h
    obtain ⟨b, rfl⟩ := cls_feed hc
    exact ⟨_, PSs.nox (pss_one (ps_ret pe_int)), hq⟩

theorem gm_Feed_joins (c : Ct K mg) : Gm P w K mg base 1 "Feed" "joins" (spO K "Feed" vJoins) := by
  refine gm_of (d := dFeed_joins) (N := ["self"]) (ps := ["self"]) (k := 0) c 37 rfl rfl rfl rfl ⟨rfl, rfl, rfl, by decide +kernel, rfl, by decide +kernel, by decide +kernel⟩ (fun _ _ _ _ _ _ us hl => match us, hl with | [_], _ => rfl) (fun vs H Q E h => ?_) (fun cdv A outer s H vs Q E hr h => ?_)
  · obtain ⟨p, sw, rfl, _⟩ := h
    rfl
  · obtain ⟨p, sw, rfl, hc, ⟨dx, hp⟩, hk, hq⟩ := h
    obtain ⟨b, rfl⟩ := cls_feed hc
    exact ⟨_, PSs.nox (pss_one (ps_ret pe_int)), hq⟩

theorem gm_Feed_gentle (c : Ct K mg) : Gm P w K mg base 1 "Feed" "gentle" (spO K "Feed" vGentle) := by
  refine gm_of (d := dFeed_gentle) (N := ["self"]) (ps := ["self"]) (k := 0) c 38 rfl rfl rfl rfl ⟨rfl, rfl, rfl, by decide +kernel, rfl, by decide +kernel, by decide +kernel⟩ (fun _ _ _ _ _ _ us hl => match us, hl with | [_], _ => rfl) (fun vs H Q E h => ?_) (fun cdv A outer s H vs Q E hr h => ?_)
  · obtain ⟨p, sw, rfl, _⟩ := h
    rfl
  · obtain ⟨p, sw, rfl, hc, ⟨dx, hp⟩, hk, hq⟩ := h
    obtain ⟨b, rfl⟩ := cls_feed hc
    exact ⟨_, PSs.nox (pss_one (ps_ret pe_bl)), hq⟩

theorem gm_Earth_feeds (c : Ct K mg) : Gm P w K mg base 1 "Earth" "feeds" (spO K "Earth" vFeeds) := by
  refine gm_of (d := dEarth_feeds) (N := ["self"]) (ps := ["self"]) (k := 0) c 40 rfl rfl rfl rfl ⟨rfl, rfl, rfl, by decide +kernel, rfl, by decide +kernel, by decide +kernel⟩ (fun _ _ _ _ _ _ us hl => match us, hl with | [_], _ => rfl) (fun vs H Q E h => ?_) (fun cdv A outer s H vs Q E hr h => ?_)
  · obtain ⟨p, sw, rfl, _⟩ := h
    rfl
  · obtain ⟨p, sw, rfl, hc, ⟨dx, hp⟩, hk, hq⟩ := h
    obtain ⟨b, rfl⟩ := cls_earth hc
    exact ⟨_, PSs.nox (pss_one (ps_ret pe_int)), hq⟩

theorem gm_Earth_earths (c : Ct K mg) : Gm P w K mg base 1 "Earth" "earths" (spO K "Earth" vEarths) := by
  refine gm_of (d := dEarth_earths) (N := ["self"]) (ps := ["self"]) (k := 0) c 41 rfl rfl rfl rfl ⟨rfl, rfl, rfl, by decide +kernel, rfl, by decide +kernel, by decide +kernel⟩ (fun _ _ _ _ _ _ us hl => match us, hl with | [_], _ => rfl) (fun vs H Q E h => ?_) (fun cdv A outer s H vs Q E hr h => ?_)
  · obtain ⟨p, sw, rfl, _⟩ := h
    rfl
  · obtain ⟨p, sw, rfl, hc, ⟨dx, hp⟩, hk, hq⟩ := h
    obtain ⟨b, rfl⟩ := cls_earth hc
    have hb : b < 1000 := hk
    refine ⟨_, PSs.nox (pss_one (ps_ret (pe_op opn_one pe_int (pe_fld (pv 0) rfl)))), ?_⟩
    exact ⟨_, rfl, p, _, dx, _, _, rfl, hp, c.cls "Earth", c.noat "Earth" "bar", fl1_bar b, b, rfl, rfl, by omega, hq⟩

theorem gm_Earth_joins (c : Ct K mg) : Gm P w K mg base 1 "Earth" "joins" (spO K "Earth" vJoins) := by
  refine gm_of (d := dEarth_joins) (N := ["self"]) (ps := ["self"]) (k := 0) c 42 rfl rfl rfl rfl ⟨rfl, rfl, rfl, by decide +kernel, rfl, by decide +kernel, by decide +kernel⟩ (fun _ _ _ _ _ _ us hl => match us, hl with | [_], _ => rfl) (fun vs H Q E h => ?_) (fun cdv A outer s H vs Q E hr h => ?_)
  · obtain ⟨p, sw, rfl, _⟩ := h
    rfl
  · obtain ⟨p, sw, rfl, hc, ⟨dx, hp⟩, hk, hq⟩ := h
    obtain ⟨b, rfl⟩ := cls_earth hc
    exact ⟨_, PSs.nox (pss_one (ps_ret pe_int)), hq⟩

theorem gm_Earth_gentle (c : Ct K mg) : Gm P w K mg base 1 "Earth" "gentle" (spO K "Earth" vGentle) := by
  refine gm_of (d := dEarth_gentle) (N := ["self"]) (ps := ["self"]) (k := 0) c 43 rfl rfl rfl rfl ⟨rfl, rfl, rfl, by decide +kernel, rfl, by decide +kernel, by decide +kernel⟩ (fun _ _ _ _ _ _ us hl => match us, hl with | [_], _ => rfl) (fun vs H Q E h => ?_) (fun cdv A outer s H vs Q E hr h => ?_)
  · obtain ⟨p, sw, rfl, _⟩ := h
    rfl
  · obtain ⟨p, sw, rfl, hc, ⟨dx, hp⟩, hk, hq⟩ := h
    obtain ⟨b, rfl⟩ := cls_earth hc
    exact ⟨_, PSs.nox (pss_one (ps_ret pe_bl)), hq⟩

theorem gm_Breaker_feeds (c : Ct K mg) : Gm P w K mg base 1 "Breaker" "feeds" (spO K "Breaker" vFeeds) := by
  refine gm_of (d := dBreaker_feeds) (N := ["self"]) (ps := ["self"]) (k := 0) c 45 rfl rfl rfl rfl ⟨rfl, rfl, rfl, by decide +kernel, rfl, by decide +kernel, by decide +kernel⟩ (fun _ _ _ _ _ _ us hl => match us, hl with | [_], _ => rfl) (fun vs H Q E h => ?_) (fun cdv A outer s H vs Q E hr h => ?_)
  · obtain ⟨p, sw, rfl, _⟩ := h
    rfl
  · obtain ⟨p, sw, rfl, hc, ⟨dx, hp⟩, hk, hq⟩ := h
    obtain ⟨b, b2, rfl⟩ := cls_brk hc
    exact ⟨_, PSs.nox (pss_one (ps_ret pe_int)), hq⟩

theorem gm_Breaker_earths (c : Ct K mg) : Gm P w K mg base 1 "Breaker" "earths" (spO K "Breaker" vEarths) := by
  refine gm_of (d := dBreaker_earths) (N := ["self"]) (ps := ["self"]) (k := 0) c 46 rfl rfl rfl rfl ⟨rfl, rfl, rfl, by decide +kernel, rfl, by decide +kernel, by decide +kernel⟩ (fun _ _ _ _ _ _ us hl => match us, hl with | [_], _ => rfl) (fun vs H Q E h => ?_) (fun cdv A outer s H vs Q E hr h => ?_)
  · obtain ⟨p, sw, rfl, _⟩ := h
    rfl
  · obtain ⟨p, sw, rfl, hc, ⟨dx, hp⟩, hk, hq⟩ := h
    obtain ⟨b, b2, rfl⟩ := cls_brk hc
    exact ⟨_, PSs.nox (pss_one (ps_ret pe_int)), hq⟩

theorem gm_Breaker_joins (c : Ct K mg) : Gm P w K mg base 1 "Breaker" "joins" (spO K "Breaker" vJoins) := by
  refine gm_of (d := dBreaker_joins) (N := ["self"]) (ps := ["self"]) (k := 0) c 47 rfl rfl rfl rfl ⟨rfl, rfl, rfl, by decide +kernel, rfl, by decide +kernel, by decide +kernel⟩ (fun _ _ _ _ _ _ us hl => match us, hl with | [_], _ => rfl) (fun vs H Q E h => ?_) (fun cdv A outer s H vs Q E hr h => ?_)
  · obtain ⟨p, sw, rfl, _⟩ := h
    rfl
  · obtain ⟨p, sw, rfl, hc, ⟨dx, hp⟩, hk, hq⟩ := h
    obtain ⟨b, b2, rfl⟩ := cls_brk hc
    have hb : b < 1000 ∧ b2 < 1000 ∧ b ≠ b2 := hk
    refine ⟨_, PSs.nox (pss_one (ps_ret (pe_op opn_or (pe_op opn_one pe_int (pe_fld (pv 0) rfl)) (pe_op opn_one pe_int (pe_fld (pv 0) rfl))))), ?_⟩
    exact ⟨_, rfl, p, _, dx, _, _, rfl, hp, c.cls "Breaker", c.noat "Breaker" "one", fl2_one b b2, b, rfl, rfl, by omega, _, rfl, p, _, dx, _, _, rfl, hp, c.cls "Breaker", c.noat "Breaker" "other", fl2_other b b2, b2, rfl, rfl, by omega, _, _, rfl, rfl, hq⟩

theorem gm_Breaker_gentle (c : Ct K mg) : Gm P w K mg base 1 "Breaker" "gentle" (spO K "Breaker" vGentle) := by
  refine gm_of (d := dBreaker_gentle) (N := ["self"]) (ps := ["self"]) (k := 0) c 48 rfl rfl rfl rfl ⟨rfl, rfl, rfl, by decide +kernel, rfl, by decide +kernel, by decide +kernel⟩ (fun _ _ _ _ _ _ us hl => match us, hl with | [_], _ => rfl) (fun vs H Q E h => ?_) (fun cdv A outer s H vs Q E hr h => ?_)
  · obtain ⟨p, sw, rfl, _⟩ := h
    rfl
  · obtain ⟨p, sw, rfl, hc, ⟨dx, hp⟩, hk, hq⟩ := h
    obtain ⟨b, b2, rfl⟩ := cls_brk hc
    exact ⟨_, PSs.nox (pss_one (ps_ret pe_bl)), hq⟩

theorem gm_Splitter_feeds (c : Ct K mg) : Gm P w K mg base 1 "Splitter" "feeds" (spO K "Splitter" vFeeds) := by
  refine gm_of (d := dSplitter_feeds) (N := ["self"]) (ps := ["self"]) (k := 0) c 50 rfl rfl rfl rfl ⟨rfl, rfl, rfl, by decide +kernel, rfl, by decide +kernel, by decide +kernel⟩ (fun _ _ _ _ _ _ us hl => match us, hl with | [_], _ => rfl) (fun vs H Q E h => ?_) (fun cdv A outer s H vs Q E hr h => ?_)
  · obtain ⟨p, sw, rfl, _⟩ := h
    rfl
  · obtain ⟨p, sw, rfl, hc, ⟨dx, hp⟩, hk, hq⟩ := h
    obtain ⟨b, b2, rfl⟩ := cls_spl hc
    exact ⟨_, PSs.nox (pss_one (ps_ret pe_int)), hq⟩

theorem gm_Splitter_earths (c : Ct K mg) : Gm P w K mg base 1 "Splitter" "earths" (spO K "Splitter" vEarths) := by
  refine gm_of (d := dSplitter_earths) (N := ["self"]) (ps := ["self"]) (k := 0) c 51 rfl rfl rfl rfl ⟨rfl, rfl, rfl, by decide +kernel, rfl, by decide +kernel, by decide +kernel⟩ (fun _ _ _ _ _ _ us hl => match us, hl with | [_], _ => rfl) (fun vs H Q E h => ?_) (fun cdv A outer s H vs Q E hr h => ?_)
  · obtain ⟨p, sw, rfl, _⟩ := h
    rfl
  · obtain ⟨p, sw, rfl, hc, ⟨dx, hp⟩, hk, hq⟩ := h
    obtain ⟨b, b2, rfl⟩ := cls_spl hc
    exact ⟨_, PSs.nox (pss_one (ps_ret pe_int)), hq⟩

theorem gm_Splitter_joins (c : Ct K mg) : Gm P w K mg base 1 "Splitter" "joins" (spO K "Splitter" vJoins) := by
  refine gm_of (d := dSplitter_joins) (N := ["self"]) (ps := ["self"]) (k := 0) c 52 rfl rfl rfl rfl ⟨rfl, rfl, rfl, by decide +kernel, rfl, by decide +kernel, by decide +kernel⟩ (fun _ _ _ _ _ _ us hl => match us, hl with | [_], _ => rfl) (fun vs H Q E h => ?_) (fun cdv A outer s H vs Q E hr h => ?_)
  · obtain ⟨p, sw, rfl, _⟩ := h
    rfl
  · obtain ⟨p, sw, rfl, hc, ⟨dx, hp⟩, hk, hq⟩ := h
    obtain ⟨b, b2, rfl⟩ := cls_spl hc
    have hb : b < 1000 ∧ b2 < 1000 ∧ b ≠ b2 := hk
    refine ⟨_, PSs.nox (pss_one (ps_ret (pe_op opn_or (pe_op opn_one pe_int (pe_fld (pv 0) rfl)) (pe_op opn_one pe_int (pe_fld (pv 0) rfl))))), ?_⟩
    exact ⟨_, rfl, p, _, dx, _, _, rfl, hp, c.cls "Splitter", c.noat "Splitter" "one", fl2_one b b2, b, rfl, rfl, by omega, _, rfl, p, _, dx, _, _, rfl, hp, c.cls "Splitter", c.noat "Splitter" "other", fl2_other b b2, b2, rfl, rfl, by omega, _, _, rfl, rfl, hq⟩

theorem gm_Splitter_gentle (c : Ct K mg) : Gm P w K mg base 1 "Splitter" "gentle" (spO K "Splitter" vGentle) := by
  refine gm_of (d := dSplitter_gentle) (N := ["self"]) (ps := ["self"]) (k := 0) c 53 rfl rfl rfl rfl ⟨rfl, rfl, rfl, by decide +kernel, rfl, by decide +kernel, by decide +kernel⟩ (fun _ _ _ _ _ _ us hl => match us, hl with | [_], _ => rfl) (fun vs H Q E h => ?_) (fun cdv A outer s H vs Q E hr h => ?_)
  · obtain ⟨p, sw, rfl, _⟩ := h
    rfl
  · obtain ⟨p, sw, rfl, hc, ⟨dx, hp⟩, hk, hq⟩ := h
    obtain ⟨b, b2, rfl⟩ := cls_spl hc
    exact ⟨_, PSs.nox (pss_one (ps_ret pe_bl)), hq⟩

theorem gk_Feed (c : Ct K mg) : Gk P w K mg base 1 "Feed" (spI1 K "Feed") := by
  refine gk_of (d := dFeed_init) (N := ["self", "bar"]) (ps := ["self", "bar"]) (k := 0) c 34 rfl rfl rfl rfl ⟨rfl, rfl, rfl, by decide +kernel, rfl, by decide +kernel, by decide +kernel⟩ (fun _ _ _ _ _ _ us hl => match us, hl with | [_, _], _ => rfl) (fun vs H Q E h => ?_) (fun cdv A outer s H vs Q E hr h => ?_)
  · obtain ⟨p, dx, b, rfl, _⟩ := h
    rfl
  · obtain ⟨p, dx, b, rfl, hp, hq⟩ := h
    refine ⟨_, PSs.nox (pss_one (ps_fld (pv 0) (pv 1) rfl)), ?_⟩
    exact ⟨_, rfl, _, rfl, p, _, dx, [], rfl, hp, c.cls "Feed", c.noat "Feed" "bar", (by show 0 < 1000; decide), hq⟩

theorem gk_Earth (c : Ct K mg) : Gk P w K mg base 1 "Earth" (spI1 K "Earth") := by
  refine gk_of (d := dEarth_init) (N := ["self", "bar"]) (ps := ["self", "bar"]) (k := 0) c 39 rfl rfl rfl rfl ⟨rfl, rfl, rfl, by decide +kernel, rfl, by decide +kernel, by decide +kernel⟩ (fun _ _ _ _ _ _ us hl => match us, hl with | [_, _], _ => rfl) (fun vs H Q E h => ?_) (fun cdv A outer s H vs Q E hr h => ?_)
  · obtain ⟨p, dx, b, rfl, _⟩ := h
    rfl
  · obtain ⟨p, dx, b, rfl, hp, hq⟩ := h
    refine ⟨_, PSs.nox (pss_one (ps_fld (pv 0) (pv 1) rfl)), ?_⟩
    exact ⟨_, rfl, _, rfl, p, _, dx, [], rfl, hp, c.cls "Earth", c.noat "Earth" "bar", (by show 0 < 1000; decide), hq⟩

theorem gk_Breaker (c : Ct K mg) : Gk P w K mg base 1 "Breaker" (spI2 K "Breaker") := by
  refine gk_of (d := dBreaker_init) (N := ["self", "one", "other"]) (ps := ["self", "one", "other"]) (k := 0) c 44 rfl rfl rfl rfl ⟨rfl, rfl, rfl, by decide +kernel, rfl, by decide +kernel, by decide +kernel⟩ (fun _ _ _ _ _ _ us hl => match us, hl with | [_, _, _], _ => rfl) (fun vs H Q E h => ?_) (fun cdv A outer s H vs Q E hr h => ?_)
  · obtain ⟨p, dx, a, b, rfl, _⟩ := h
    rfl
  · obtain ⟨p, dx, a, b, rfl, hp, hq⟩ := h
    refine ⟨_, PSs.nox (pss_cons (ps_fld (pv 0) (pv 1) rfl) (pss_one (ps_fld (pv 0) (pv 2) rfl))), ?_⟩
    exact ⟨_, rfl, _, rfl, p, _, dx, [], rfl, hp, c.cls "Breaker", c.noat "Breaker" "one", (by show 0 < 1000; decide), _, rfl, _, rfl, p, _, dx, _, rfl, upd_same, c.cls "Breaker", c.noat "Breaker" "other", (by show 1 < 1000; decide), hq⟩

theorem gk_Splitter (c : Ct K mg) : Gk P w K mg base 1 "Splitter" (spI2 K "Splitter") := by
  refine gk_of (d := dSplitter_init) (N := ["self", "one", "other"]) (ps := ["self", "one", "other"]) (k := 0) c 49 rfl rfl rfl rfl ⟨rfl, rfl, rfl, by decide +kernel, rfl, by decide +kernel, by decide +kernel⟩ (fun _ _ _ _ _ _ us hl => match us, hl with | [_, _, _], _ => rfl) (fun vs H Q E h => ?_) (fun cdv A outer s H vs Q E hr h => ?_)
  · obtain ⟨p, dx, a, b, rfl, _⟩ := h
    rfl
  · obtain ⟨p, dx, a, b, rfl, hp, hq⟩ := h
    refine ⟨_, PSs.nox (pss_cons (ps_fld (pv 0) (pv 1) rfl) (pss_one (ps_fld (pv 0) (pv 2) rfl))), ?_⟩
    exact ⟨_, rfl, _, rfl, p, _, dx, [], rfl, hp, c.cls "Splitter", c.noat "Splitter" "one", (by show 0 < 1000; decide), _, rfl, _, rfl, p, _, dx, _, rfl, upd_same, c.cls "Splitter", c.noat "Splitter" "other", (by show 1 < 1000; decide), hq⟩

theorem gs_feeds (c : Ct K mg) (sw : Sw) : Gm P w K mg base 1 sw.cls "feeds" (spO K sw.cls vFeeds) := by
  cases sw
  · exact gm_Feed_feeds c
  · exact gm_Earth_feeds c
  · exact gm_Breaker_feeds c
  · exact gm_Splitter_feeds c

theorem gs_earths (c : Ct K mg) (sw : Sw) : Gm P w K mg base 1 sw.cls "earths" (spO K sw.cls vEarths) := by
  cases sw
  · exact gm_Feed_earths c
  · exact gm_Earth_earths c
  · exact gm_Breaker_earths c
  · exact gm_Splitter_earths c

theorem gs_joins (c : Ct K mg) (sw : Sw) : Gm P w K mg base 1 sw.cls "joins" (spO K sw.cls vJoins) := by
  cases sw
  · exact gm_Feed_joins c
  · exact gm_Earth_joins c
  · exact gm_Breaker_joins c
  · exact gm_Splitter_joins c

theorem gs_gentle (c : Ct K mg) (sw : Sw) : Gm P w K mg base 1 sw.cls "gentle" (spO K sw.cls vGentle) := by
  cases sw
  · exact gm_Feed_gentle c
  · exact gm_Earth_gentle c
  · exact gm_Breaker_gentle c
  · exact gm_Splitter_gentle c

end
section
variable {X : Cx} {k j : Nat} {m : Str} {f : Sw → V} {E : XK} {o : Expr} {ta : TE} {pos apos : Pos}
/-- o.m(), o a switch's object -/
def tSw (K : PySem.W.Frag) (f : Sw → V) (ta : TE) : TE := fun σ H Q => ta σ H fun y H1 => ∃ (p : Addr) (sw : Sw), y = .ref p ∧ OAt K H1 p sw ∧ sw.ok 1000 ∧ Q (f sw) H1
theorem pe_sw {pl : Sem Bool} (gs : ∀ sw : Sw, Gm X.prog X.w X.K X.mg X.base k sw.cls m (spO X.K sw.cls f)) (hno : ∀ sw : Sw, sw.flds.lookup m = none) (hr : Room j X.A) (ho : PE X o ta) (hk : k ≤ j := by decide)
    (ht : eval (.Call (.Attribute o m apos) [] [] pos) X.env = (do
      let ov ← eval o X.env
      standAt apos.atName
      let (f, first) ← holding [ov] (getMethod ov m pl)
      callWith pos f first (backTo pos (starEach [] X.env)) (backToKw pos (keywordEach [] X.env))) := by rfl) :
    PE X (.Call (.Attribute o m apos) [] [] pos) (tSw X.K f ta) := by
  refine ⟨fun pins s σ H Q inv hq => ?_⟩
  refine PySem.W.methodCall_KW (pl := pl) (thn (ho.run pins s σ H _ inv hq) fun u s1 hu => ?_) ht
  obtain ⟨y, H1, inv1, ry, p, sw, ey, ⟨dx, ea⟩, hs, q⟩ := hu
  subst ey
  have eu : u = Value.ref p := ry
  subst eu
  obtain ⟨fd, ps, F, h1, h2, h3⟩ := (gs sw).ex
  refine getmeth_ok inv1 ea h1 h2 (hno sw) ?_
  exact PySem.W.callWith_K0 (first := [.ref p]) inv1.kIn h2.kp (run_fn (us := [.ref p]) (vs := [.ref p]) (E := E0) F (hr.mono hk) h3 .nil passL inv1 (.cons rfl .nil) ⟨p, sw, rfl, rfl, ⟨dx, ea⟩, hs, q⟩)
theorem no_feeds (sw : Sw) : sw.flds.lookup ("feeds" : Str) = none := flds_no sw (by decide +kernel) (by decide +kernel) (by decide +kernel)
theorem no_earths (sw : Sw) : sw.flds.lookup ("earths" : Str) = none := flds_no sw (by decide +kernel) (by decide +kernel) (by decide +kernel)
theorem no_joins (sw : Sw) : sw.flds.lookup ("joins" : Str) = none := flds_no sw (by decide +kernel) (by decide +kernel) (by decide +kernel)
theorem no_gentle (sw : Sw) : sw.flds.lookup ("gentle" : Str) = none := flds_no sw (by decide +kernel) (by decide +kernel) (by decide +kernel)
end
end K38

namespace K38
open PySem PySem.Spec PyProof.Rows L2
/-! ### small helpers -/
theorem ifd_t {x y : V} {A B : Prop} (h : x = y) (ha : A) : if decide (x = y) = true then A else B := by
  rw [decide_eq_true h]
  exact iteT ha
theorem ifd_f {x y : V} {A B : Prop} (h : ¬ x = y) (hb : B) : if decide (x = y) = true then A else B := by
  rw [decide_eq_false h]
  exact iteF hb
theorem ifnd_t {x y : V} {A B : Prop} (h : ¬ x = y) (ha : A) : if (!decide (x = y)) = true then A else B := by
  rw [decide_eq_false h]
  exact iteT ha
theorem ifnd_f {x y : V} {A B : Prop} (h : x = y) (hb : B) : if (!decide (x = y)) = true then A else B := by
  rw [decide_eq_true h]
  exact iteF hb
theorem ifb {b : Bool} {A B : Prop} (h1 : b = true → A) (h2 : b = false → B) : if b = true then A else B := by
  cases b
  · exact iteF (h2 rfl)
  · exact iteT (h1 rfl)
theorem ifT {b : Bool} {A B : Prop} (h : b = true) (ha : A) : if b = true then A else B := by
  rw [h]
  exact iteT ha
theorem ifF {b : Bool} {A B : Prop} (h : b = false) (hb : B) : if b = true then A else B := by
  rw [h]
  exact iteF hb
theorem same_new {H : Hp} {p : Addr} {o : HO} (h : H p = none) : Same H (upd H p o) := fun a u e => by
  rw [upd_ne (ne_of_none e h)]
  exact e
theorem same_mut' {H H1 : Hp} {p : Addr} {o : HO} (s : Same H H1) (h : H1 p = none) : Same H (upd H1 p o) := s.trans (same_new h)
theorem same_mut {H H' : Hp} {p : Addr} {o : HO} (s : Same H H') (h : H p = none) : Same H (upd H' p o) := fun a u e => by
  rw [upd_ne (ne_of_none e h)]
  exact s a u e
/-- kept, but for p and d -/
theorem gone {H : Hp} {p : Addr} {o : HO} (h : H p = some o) (h' : H p = none) : False := by
  rw [h] at h'
  cases h'
/-! ### two lists, item by item -/
def All2 {α β : Type} (R : α → β → Prop) : List α → List β → Prop
  | [], [] => True
  | a :: l, b :: m => R a b ∧ All2 R l m
  | _, _ => False
section
variable {α β : Type} {R S : α → β → Prop}
theorem All2.len : ∀ {l : List α} {m : List β}, All2 R l m → l.length = m.length
  | [], [], _ => rfl
  | _ :: _, _ :: _, h => congrArg Nat.succ (All2.len h.2)
  | [], _ :: _, h => h.elim
  | _ :: _, [], h => h.elim
theorem All2.mono : ∀ {l : List α} {m : List β}, All2 R l m → (∀ a b, R a b → S a b) → All2 S l m
  | [], [], _, _ => trivial
  | _ :: _, _ :: _, h, f => ⟨f _ _ h.1, All2.mono h.2 f⟩
  | [], _ :: _, h, _ => h.elim
  | _ :: _, [], h, _ => h.elim
theorem All2.snoc : ∀ {l : List α} {m : List β} {a : α} {b : β}, All2 R l m → R a b → All2 R (l ++ [a]) (m ++ [b])
  | [], [], _, _, _, r => ⟨r, trivial⟩
  | _ :: _, _ :: _, _, _, h, r => ⟨h.1, All2.snoc h.2 r⟩
  | [], _ :: _, _, _, h, _ => h.elim
  | _ :: _, [], _, _, h, _ => h.elim
theorem All2.get : ∀ {l : List α} {m : List β} {i : Nat} {a : α}, All2 R l m → l[i]? = some a → ∃ b, m[i]? = some b ∧ R a b
  | [], [], _, _, _, e => by simp at e
  | x :: _, y :: _, 0, a, h, e => by
    have z : x = a := Option.some.inj e
    subst z
    exact ⟨y, rfl, h.1⟩
  | _ :: _, _ :: _, i + 1, a, h, e => by
    obtain ⟨b, h1, h2⟩ := All2.get (i := i) (a := a) h.2 (by simpa using e)
    exact ⟨b, by simpa using h1, h2⟩
  | [], _ :: _, _, _, h, _ => h.elim
  | _ :: _, [], _, _, h, _ => h.elim
theorem All2.get' : ∀ {l : List α} {m : List β} {i : Nat} {b : β}, All2 R l m → m[i]? = some b → ∃ a, l[i]? = some a ∧ R a b
  | [], [], _, _, _, e => by simp at e
  | x :: _, y :: _, 0, b, h, e => by
    have z : y = b := Option.some.inj e
    subst z
    exact ⟨x, rfl, h.1⟩
  | _ :: _, _ :: _, i + 1, b, h, e => by
    obtain ⟨a, h1, h2⟩ := All2.get' (i := i) (b := b) h.2 (by simpa using e)
    exact ⟨a, by simpa using h1, h2⟩
  | [], _ :: _, _, _, h, _ => h.elim
  | _ :: _, [], _, _, h, _ => h.elim
end
/-! ### the bits of a number -/
abbrev vN (i : Nat) : V := .int (i : Nat)
def bitsTo (n k : Nat) : List Nat := (List.range k).filter n.testBit
def bitsOf (n : Nat) : List Nat := bitsTo n 12
theorem bitsTo_succ (n k : Nat) : bitsTo n (k + 1) = bitsTo n k ++ (if n.testBit k = true then [k] else []) := by
  unfold bitsTo
  rw [List.range_succ, List.filter_append]
  cases h : n.testBit k <;> simp [List.filter, h]
theorem bitsTo_ge {n k : Nat} (h : n < 2 ^ k) : ∀ j : Nat, bitsTo n (k + j) = bitsTo n k
  | 0 => rfl
  | j + 1 => by
    have e : n.testBit (k + j) = false := Nat.testBit_lt_two_pow (Nat.lt_of_lt_of_le h (Nat.pow_le_pow_right (by decide) (Nat.le_add_right k j)))
    rw [← Nat.add_assoc, bitsTo_succ, bitsTo_ge h j, e]
    simp
theorem bitsTo_any {n k j : Nat} (h : n < 2 ^ k) (h2 : n < 2 ^ j) : bitsTo n k = bitsTo n j := by
  rcases Nat.le_total k j with q | q
  · have e : j = k + (j - k) := by omega
    rw [e]
    exact (bitsTo_ge h _).symm
  · have e : k = j + (k - j) := by omega
    rw [e]
    exact bitsTo_ge h2 _
theorem bitsTo_len (n k : Nat) : (bitsTo n k).length ≤ k := Nat.le_trans (List.length_filter_le _ _) (by simp)
/-! ### switch_of -/
def spSwitchOf (K : PySem.W.Frag) : Sp := fun vs H Q _ => ∃ (t : Addr) (sw : Sw), vs = [.ref t] ∧ H t = some (.tup sw.parts) ∧ sw.ok 1000 ∧ ∀ (p : Addr) (H' : Hp), Same H H' → H p = none → OAt K H' p sw → Q (.ref p) H'
theorem made1 {K : PySem.W.Frag} {H : Hp} {C : Addr} {x dx : Addr} {fs gs : List (Str × V)} (nx : H x = none) (nd : H dx = none) : Same H (upd (upd (upd H dx (.own x)) x (.ins C dx fs)) x (.ins C dx gs)) := same_mut (same_mut (same_new nd) nx) nx
theorem made2 {K : PySem.W.Frag} {H : Hp} {C : Addr} {x dx : Addr} {fs gs us : List (Str × V)} (nx : H x = none) (nd : H dx = none) : Same H (upd (upd (upd (upd H dx (.own x)) x (.ins C dx fs)) x (.ins C dx gs)) x (.ins C dx us)) := same_mut (same_mut (same_mut (same_new nd) nx) nx) nx
section
variable {P : Program} {w : World} {K : PySem.W.Frag} {mg : Str → Option Value} {base : Heap}
theorem go_switch_of (c : Ct K mg) : Go P w K mg base 3 "switch_of" (spSwitchOf K) := by
  refine go_of (d := d_switch_of) (N := ["switch"]) (ps := ["switch"]) (k := 2) c 0 rfl rfl rfl rfl ⟨rfl, rfl, rfl, by decide +kernel, rfl, by decide +kernel, by decide +kernel⟩ (fun _ _ _ _ _ _ us hl => match us, hl with | [_], _ => rfl) (fun vs H Q E h => ?_) (fun cdv A outer s H vs Q E hr h => ?_)
  · obtain ⟨t, sw, rfl, _⟩ := h
    rfl
  · obtain ⟨t, sw, rfl, ht, hk, hq⟩ := h
    refine ⟨_, PSs.nox (pss_cons (ps_if (pt_cmpR op_eq (pe_ix ix_tup (pv 0) pe_int (fun _ _ => rfl)) pe_str (nomark _)) (pss_one (ps_ret (pe_gk (gk_Feed c) hr passL (pa_cons (pe_ix ix_tup (pv 0) pe_int (fun _ _ => rfl)) pa_nil)))) pss_nil)
      (pss_cons (ps_if (pt_cmpR op_eq (pe_ix ix_tup (pv 0) pe_int (fun _ _ => rfl)) pe_str (nomark _)) (pss_one (ps_ret (pe_gk (gk_Earth c) hr passL (pa_cons (pe_ix ix_tup (pv 0) pe_int (fun _ _ => rfl)) pa_nil)))) pss_nil)
      (pss_cons (ps_if (pt_cmpR op_eq (pe_ix ix_tup (pv 0) pe_int (fun _ _ => rfl)) pe_str (nomark _)) (pss_one (ps_ret (pe_gk (gk_Breaker c) hr passL (pa_cons (pe_ix ix_tup (pv 0) pe_int (fun _ _ => rfl)) (pa_cons (pe_ix ix_tup (pv 0) pe_int (fun _ _ => rfl)) pa_nil))))) pss_nil)
      (pss_one (ps_ret (pe_gk (gk_Splitter c) hr passL (pa_cons (pe_ix ix_tup (pv 0) pe_int (fun _ _ => rfl)) (pa_cons (pe_ix ix_tup (pv 0) pe_int (fun _ _ => rfl)) pa_nil)))))))), ?_⟩
    have hT : SqT K H t sw.parts := SqT.of ht
    cases sw with
    | feed b =>
      refine ⟨_, rfl, t, _, 0, _, rfl, rfl, hT, rfl, rfl, _, rfl, ifd_t rfl ?_⟩
      refine ⟨_, rfl, t, _, 1, _, rfl, rfl, hT, rfl, fun x dx nx ndx ne => ?_⟩
      exact ⟨x, dx, b, rfl, upd_same, rfl, hq x _ (made1 (K := K) nx ndx) nx ⟨dx, upd_same⟩⟩
    | earth b =>
      refine ⟨_, rfl, t, _, 0, _, rfl, rfl, hT, rfl, rfl, _, rfl, ifd_f (by decide +kernel) ?_⟩
      refine ⟨_, rfl, t, _, 0, _, rfl, rfl, hT, rfl, rfl, _, rfl, ifd_t rfl ?_⟩
      refine ⟨_, rfl, t, _, 1, _, rfl, rfl, hT, rfl, fun x dx nx ndx ne => ?_⟩
      exact ⟨x, dx, b, rfl, upd_same, rfl, hq x _ (made1 (K := K) nx ndx) nx ⟨dx, upd_same⟩⟩
    | brk a b =>
      refine ⟨_, rfl, t, _, 0, _, rfl, rfl, hT, rfl, rfl, _, rfl, ifd_f (by decide +kernel) ?_⟩
      refine ⟨_, rfl, t, _, 0, _, rfl, rfl, hT, rfl, rfl, _, rfl, ifd_f (by decide +kernel) ?_⟩
      refine ⟨_, rfl, t, _, 0, _, rfl, rfl, hT, rfl, rfl, _, rfl, ifd_t rfl ?_⟩
      refine ⟨_, rfl, t, _, 1, _, rfl, rfl, hT, rfl, _, rfl, t, _, 2, _, rfl, rfl, hT, rfl, fun x dx nx ndx ne => ?_⟩
      exact ⟨x, dx, a, b, rfl, upd_same, rfl, hq x _ (made2 (K := K) nx ndx) nx ⟨dx, upd_same⟩⟩
    | spl a b =>
      refine ⟨_, rfl, t, _, 0, _, rfl, rfl, hT, rfl, rfl, _, rfl, ifd_f (by decide +kernel) ?_⟩
      refine ⟨_, rfl, t, _, 0, _, rfl, rfl, hT, rfl, rfl, _, rfl, ifd_f (by decide +kernel) ?_⟩
      refine ⟨_, rfl, t, _, 0, _, rfl, rfl, hT, rfl, rfl, _, rfl, ifd_f (by decide +kernel) ?_⟩
      refine ⟨_, rfl, t, _, 1, _, rfl, rfl, hT, rfl, _, rfl, t, _, 2, _, rfl, rfl, hT, rfl, fun x dx nx ndx ne => ?_⟩
      exact ⟨x, dx, a, b, rfl, upd_same, rfl, hq x _ (made2 (K := K) nx ndx) nx ⟨dx, upd_same⟩⟩
/-! ### members -/
def spMembers : Sp := fun vs H Q _ => ∃ n : Nat, vs = [vN n] ∧ n < 4096 ∧ ∀ (p : Addr) (H' : Hp), Same H H' → H p = none → H' p = some (.lst ((bitsOf n).map vN)) → Q (.ref p) H'
theorem go_members (c : Ct K mg) : Go P w K mg base 1 "members" spMembers := by
  have nd : (["some", "found", "number"] : List Str).Nodup := by decide +kernel
  refine go_of (d := d_members) (N := ["some", "found", "number"]) (ps := ["some"]) (k := 0) c 1 rfl rfl rfl rfl ⟨rfl, rfl, rfl, nd, rfl, by decide +kernel, by decide +kernel⟩ (fun _ _ _ _ _ _ us hl => match us, hl with | [_], _ => rfl) (fun vs H Q E h => ?_) (fun cdv A outer s H vs Q E hr h => ?_)
  · obtain ⟨n, rfl, _⟩ := h
    rfl
  · obtain ⟨n, rfl, hn, hq⟩ := h
    refine ⟨_, PSs.nox (pss_cons (ps_set (i := 1) nd rfl (Or.inl rfl) (pe_lst pa_nil)) (pss_cons (ps_set (i := 2) nd rfl (Or.inl rfl) pe_int)
      (pss_cons (ps_while PassesOwn.never (pt_cmpR op_ne (pe_op opn_shr (pv 0) (pv 2)) pe_int (nomark _))
        (pss_cons (ps_if (pt_bit (pv 0) (pv 2)) (pss_one (ps_expr (pe_bm PySem.F.plainAttrs_list PySem.F.slot_list_append PySem.F.type_list_append mt_append (pv 1) (pa_cons (pv 2) pa_nil)))) pss_nil)
        (pss_one (ps_aug (i := 2) nd rfl (Or.inl rfl) pe_int ip_add))))
      (pss_one (ps_ret (pv 1)))))), ?_⟩
    refine ⟨Nat.zero_le _, fun l hl => ?_⟩
    refine ⟨fun m σ H' => ∃ k : Nat, m = 12 - k ∧ k ≤ 12 ∧ σ = [some (vN n), some (.ref l), some (vN k)] ∧ Same H H' ∧ H' l = some (.lst ((bitsTo n k).map vN)), ⟨12, 0, rfl, by decide, rfl, same_new hl, upd_same⟩, ?_⟩
    rintro m σ H' ⟨k, rfl, hk, rfl, hs, hL⟩
    refine ⟨_, rfl, _, rfl, n, k, rfl, rfl, rfl, _, rfl, ?_⟩
    by_cases h0 : n / 2 ^ k = 0
    · refine ifnd_f (by rw [h0]; rfl) ?_
      have hlt : n < 2 ^ k := (Nat.div_eq_zero_iff.mp h0).resolve_left (Nat.ne_of_gt (Nat.two_pow_pos k))
      refine ⟨_, rfl, hq l H' hs hl ?_⟩
      rw [hL, bitsTo_any hlt (show n < 2 ^ 12 from hn)]
      rfl
    · have hk12 : k < 12 := by
        rcases Nat.lt_or_ge k 12 with q | q
        · exact q
        · have : k = 12 := by omega
          subst this
          exact absurd (Nat.div_eq_of_lt hn) h0
      refine ifnd_t (fun z => h0 (by
        have z2 := V.int.inj z
        omega)) ?_
      refine ⟨fun σ' H2 => ∃ H1, σ' = [some (vN n), some (.ref l), some (vN (k + 1))] ∧ H2 = H1 ∧ Same H H1 ∧ H1 l = some (.lst ((bitsTo n (k + 1)).map vN)), ?_, ?_⟩
      · rintro σ' H2 ⟨H1, rfl, rfl, h1, h2⟩
        exact ⟨12 - (k + 1), by omega, k + 1, rfl, by omega, rfl, h1, h2⟩
      · refine ⟨_, rfl, _, rfl, n, k, rfl, rfl, _, rfl, ifb (fun hb => ?_) (fun hb => ?_)⟩
        · refine ⟨_, rfl, .inl ⟨rfl, _, SqL.of hL⟩, _, rfl, l, _, _, rfl, rfl, hL, ?_, ?_⟩
          · rw [List.length_map]
            exact small1000 (Nat.le_trans (bitsTo_len n k) (by omega))
          · refine ⟨_, rfl, _, _, rfl, rfl, _, rfl, rfl, same_mut hs hl, ?_⟩
            rw [upd_same, bitsTo_succ, hb]
            simp
        · refine ⟨_, rfl, _, _, rfl, rfl, _, rfl, rfl, hs, ?_⟩
          rw [hL, bitsTo_succ, hb]
          simp
end
end K38
namespace K38
open PySem PySem.Spec PyProof.Rows L2
/-! ### a yard in the heap -/
abbrev Yard := Nat × List Sw
def SwAt (H : Hp) (v : V) (s : Sw) : Prop := ∃ t : Addr, v = .ref t ∧ H t = some (.tup s.parts)
structure YAt (H : Hp) (y l : Addr) (vs : List V) (Y : Yard) : Prop where
  tp : H y = some (.tup [vN Y.1, .ref l])
  ls : H l = some (.lst vs)
  sw : All2 (SwAt H) vs Y.2
def YH (H : Hp) (y : Addr) (Y : Yard) : Prop := ∃ (l : Addr) (vs : List V), YAt H y l vs Y
structure YOk (Y : Yard) : Prop where
  n : Y.1 ≤ 10
  len : Y.2.length ≤ 12
  sw : ∀ s ∈ Y.2, s.ok Y.1
theorem YAt.mono {H H' : Hp} {y l : Addr} {vs : List V} {Y : Yard} (h : YAt H y l vs Y) (s : Same H H') : YAt H' y l vs Y :=
  ⟨s _ _ h.tp, s _ _ h.ls, h.sw.mono fun _ _ ⟨t, e, q⟩ => ⟨t, e, s _ _ q⟩⟩
theorem YH.mono {H H' : Hp} {y : Addr} {Y : Yard} (h : YH H y Y) (s : Same H H') : YH H' y Y := let ⟨l, vs, a⟩ := h; ⟨l, vs, a.mono s⟩
theorem Sw.ok.mono {n m : Nat} {s : Sw} (h : s.ok n) (hm : n ≤ m) : s.ok m := by
  cases s with
  | feed b => exact Nat.lt_of_lt_of_le h hm
  | earth b => exact Nat.lt_of_lt_of_le h hm
  | brk a b => exact ⟨Nat.lt_of_lt_of_le h.1 hm, Nat.lt_of_lt_of_le h.2.1 hm, h.2.2⟩
  | spl a b => exact ⟨Nat.lt_of_lt_of_le h.1 hm, Nat.lt_of_lt_of_le h.2.1 hm, h.2.2⟩
theorem YOk.big {Y : Yard} (h : YOk Y) {s : Sw} {i : Nat} (hs : Y.2[i]? = some s) : s.ok 1000 := (h.sw s (List.mem_of_getElem? hs)).mono (Nat.le_trans h.n (by decide))
/-! ### the shut switches -/
def shutTo (L : List Sw) (s k : Nat) : List (Nat × Sw) := (List.range k).filterMap fun i => if s.testBit i = true then (L[i]?).map (fun x => (i, x)) else none
def shutOf (L : List Sw) (s : Nat) : List (Nat × Sw) := shutTo L s L.length
theorem shutTo_succ {L : List Sw} {s k : Nat} {x : Sw} (h : L[k]? = some x) : shutTo L s (k + 1) = shutTo L s k ++ (if s.testBit k = true then [(k, x)] else []) := by
  unfold shutTo
  rw [List.range_succ, List.filterMap_append]
  cases q : s.testBit k <;> simp [q, h]
theorem shutTo_len (L : List Sw) (s k : Nat) : (shutTo L s k).length ≤ k := Nat.le_trans (List.length_filterMap_le _ _) (by simp)
theorem shutTo_mem {L : List Sw} {s k : Nat} {q : Nat × Sw} (h : q ∈ shutTo L s k) : q.2 ∈ L ∧ q.1 < k := by
  unfold shutTo at h
  obtain ⟨i, hi, e⟩ := List.mem_filterMap.mp h
  split at e
  · cases z : L[i]? with
    | none =>
      rw [z] at e
      cases e
    | some x =>
      rw [z] at e
      have e2 : (i, x) = q := Option.some.inj e
      subst e2
      exact ⟨List.mem_of_getElem? z, List.mem_range.mp hi⟩
  · cases e
def ItemAt (K : PySem.W.Frag) (H : Hp) (v : V) (q : Nat × Sw) : Prop := ∃ t p : Addr, v = .ref t ∧ H t = some (.tup [vN q.1, .ref p]) ∧ OAt K H p q.2
theorem ItemAt.keep {K : PySem.W.Frag} {H H' : Hp} {D : Addr} {us : List V} {v : V} {q : Nat × Sw} (h : ItemAt K H v q) (hD : H D = some (.lst us)) (k : ∀ b o, b ≠ D → H b = some o → H' b = some o) : ItemAt K H' v q := by
  obtain ⟨t, p, e, h1, dx, h2⟩ := h
  exact ⟨t, p, e, k t _ (ne_of h1 hD (by intro z; cases z)) h1, dx, k p _ (ne_of h2 hD (by intro z; cases z)) h2⟩
theorem ItemAt.mono {K : PySem.W.Frag} {H H' : Hp} {v : V} {q : Nat × Sw} (h : ItemAt K H v q) (s : Same H H') : ItemAt K H' v q := by
  obtain ⟨t, p, e, h1, dx, h2⟩ := h
  exact ⟨t, p, e, s t _ h1, dx, s p _ h2⟩
def spShut (K : PySem.W.Frag) : Sp := fun vs H Q _ => ∃ (y : Addr) (Y : Yard) (s : Nat), vs = [.ref y, vN s] ∧ YH H y Y ∧ YOk Y ∧
  ∀ (p : Addr) (H' : Hp) (us : List V), Same H H' → H p = none → H' p = some (.lst us) → All2 (ItemAt K H') us (shutOf Y.2 s) → Q (.ref p) H'
section
variable {P : Program} {w : World} {K : PySem.W.Frag} {mg : Str → Option Value} {base : Heap}
theorem go_shut (c : Ct K mg) : Go P w K mg base 4 "shut_objects" (spShut K) := by
  have nd : (["yard", "standing", "number", "switch"] : List Str).Nodup := by decide +kernel
  refine go_of (d := d_shut_objects) (N := ["yard", "standing", "number", "switch"]) (ps := ["yard", "standing"]) (k := 3) c 2 rfl rfl rfl rfl ⟨rfl, rfl, rfl, nd, rfl, by decide +kernel, by decide +kernel⟩ (fun _ _ _ _ _ _ us hl => match us, hl with | [_, _], _ => rfl) (fun vs H Q E h => ?_) (fun cdv A outer s H vs Q E hr h => ?_)
  · obtain ⟨y, Y, s, rfl, _⟩ := h
    rfl
  · obtain ⟨y, Y, z, rfl, ⟨l, vs, hY⟩, hok, hq⟩ := h
    refine ⟨_, PSs.nox (pss_one (ps_ret (pe_lc (own := [("number", 2), ("switch", 3)]) (g := gTup K 2 (gCons (gName 2) (gCons (gName 3) gNil))) (by rfl) nd (pi_enum rfl (c.free "enumerate") (pa_cons (pe_ix ix_tup (pv 0) pe_int (fun _ _ => rfl)) pa_nil))
      (blkOk_by (own := [("number", 2), ("switch", 3)]) (N := ["yard", "standing", "number", "switch"]) (sc := defScope s_shut_objects) (by decide +kernel))
      (fun _ _ _ _ _ => by exact pg_tup rfl (pgs_cons (pg_name (i := 2) nd rfl (Or.inl rfl)) (pgs_cons (pg_name (i := 3) nd rfl (Or.inl rfl)) pgs_nil)))
      (fun _ _ _ _ _ => by exact pts_one (pt_bit (pv 1) (pv 2)))
      (fun _ _ _ _ _ => by exact pe_tup (pa_cons (pv 2) (pa_cons (pe_g (go_switch_of c) hr passL (pa_cons (pv 3) pa_nil)) pa_nil)))))), ?_⟩
    refine ⟨_, rfl, y, _, 1, _, rfl, rfl, SqT.of hY.tp, rfl, l, vs, rfl, SqL.of hY.ls, fun D hD => ?_⟩
    have hlen : vs.length = Y.2.length := hY.sw.len
    refine lc_it (walk_enum (K := K) (a := l) (xs := vs)) (fun i H' => Same H H' ∧ ∃ us, H' D = some (.lst us) ∧ All2 (ItemAt K H') us (shutTo Y.2 z i)) ⟨same_new hD, [], upd_same, trivial⟩ (fun i H' _ p => SqL.of (p.1 l _ hY.ls)) ?_ ?_
    · rintro i x H2 H3 hi ⟨s2, us, hD2, ha⟩ ⟨T, a, b, rfl, nT, rfl, ea, eb⟩
      cases ea
      obtain ⟨sw, hsw, t, rfl, ht⟩ := hY.sw.get eb
      have s3 : Same H (upd H2 T (.tup [.int (i : Nat), .ref t])) := s2.trans (same_new nT)
      refine ⟨T, _, rfl, SqT.of upd_same, rfl, _, _, rfl, _, _, rfl, rfl, rfl, ?_⟩
      have hDT : D ≠ T := ne_of_none hD2 nT
      refine ⟨_, rfl, _, rfl, z, i, rfl, rfl, _, rfl, ifb (fun hb => ?_) (fun hb => ?_)⟩
      · refine ⟨_, rfl, _, rfl, t, sw, rfl, s3 t _ ht, hok.big hsw, fun p H4 s4 np oa => ⟨by show 2 ≤ sizeLine; decide, fun q nq => ?_⟩⟩
        have hD4 : H4 D = some (.lst us) := s4 D _ (by rw [upd_ne hDT]; exact hD2)
        have hDq : D ≠ q := ne_of_none hD4 nq
        obtain ⟨dx, oa⟩ := oa
        have hpq : p ≠ q := ne_of_none oa nq
        have hpD : p ≠ D := ne_of oa hD4 (by intro z; cases z)
        refine ⟨us, by rw [upd_ne hDq]; exact hD4, ?_, same_mut (same_mut' (s3.trans s4) nq) hD, us ++ [.ref q], upd_same, ?_⟩
        · rw [ha.len]
          exact small1000 (Nat.le_trans (shutTo_len _ _ _) (by have := hok.len; omega))
        · rw [shutTo_succ hsw, hb]
          refine All2.snoc (ha.mono fun v u hu => ?_) ⟨q, p, rfl, ?_, dx, ?_⟩
          · exact hu.keep hD2 fun b o hb e => by
              rw [upd_ne hb, upd_ne (ne_of_none (s4 b o (by rw [upd_ne (ne_of_none e nT)]; exact e)) nq)]
              exact s4 b o (by rw [upd_ne (ne_of_none e nT)]; exact e)
          · rw [upd_ne hDq.symm, upd_same]
          · rw [upd_ne hpD, upd_ne hpq]
            exact oa
      · refine ⟨s3, us, by rw [upd_ne hDT]; exact hD2, ?_⟩
        rw [shutTo_succ hsw, hb]
        simp only [Bool.false_eq_true, if_false, List.append_nil]
        exact ha.mono fun v u hu => hu.mono (same_new nT)
    · rintro H2 ⟨s2, us, hD2, ha⟩
      refine hq D H2 us s2 hD hD2 ?_
      unfold shutOf
      rw [← hlen]
      exact ha
end
end K38
namespace K38
open PySem PySem.Spec PyProof.Rows L2
/-! ### links, joined: plain -/
def linkTo (S : List (Nat × Sw)) : List (Nat × Nat) := S.filterMap fun q => if q.2.joins = 0 then none else some (q.1, q.2.joins)
def linksOf (L : List Sw) (s : Nat) : List (Nat × Nat) := linkTo (shutOf L s)
theorem take_more {α : Type} {l : List α} {i : Nat} {x : α} (h : l[i]? = some x) : l.take (i + 1) = l.take i ++ [x] := by
  rw [List.take_add_one, h]
  rfl
theorem linkTo_succ {S : List (Nat × Sw)} {i : Nat} {q : Nat × Sw} (h : S[i]? = some q) : linkTo (S.take (i + 1)) = linkTo (S.take i) ++ (if q.2.joins = 0 then [] else [(q.1, q.2.joins)]) := by
  unfold linkTo
  rw [take_more h, List.filterMap_append]
  by_cases z : q.2.joins = 0 <;> simp [z]
theorem pow_lt2 {a n : Nat} (h : a < n) : 2 ^ a < 2 ^ n := Nat.pow_lt_pow_right (by decide) h
theorem joins_lt {s : Sw} {n : Nat} (h : s.ok n) : s.joins < 2 ^ n := by
  cases s with
  | feed b => exact Nat.two_pow_pos n
  | earth b => exact Nat.two_pow_pos n
  | brk a b => exact Nat.or_lt_two_pow (pow_lt2 h.1) (pow_lt2 h.2.1)
  | spl a b => exact Nat.or_lt_two_pow (pow_lt2 h.1) (pow_lt2 h.2.1)
theorem feeds_lt {s : Sw} {n : Nat} (h : s.ok n) : s.feeds < 2 ^ n := by
  cases s with
  | feed b => exact pow_lt2 h
  | _ => exact Nat.two_pow_pos n
theorem earths_lt {s : Sw} {n : Nat} (h : s.ok n) : s.earths < 2 ^ n := by
  cases s with
  | earth b => exact pow_lt2 h
  | _ => exact Nat.two_pow_pos n
theorem linksOf_lt {Y : Yard} (ok : YOk Y) {s : Nat} {q : Nat × Nat} (h : q ∈ linksOf Y.2 s) : q.2 < 2 ^ Y.1 := by
  unfold linksOf linkTo at h
  obtain ⟨a, ha, e⟩ := List.mem_filterMap.mp h
  split at e
  · cases e
  · have e2 : (a.1, a.2.joins) = q := Option.some.inj e
    subst e2
    exact joins_lt (ok.sw _ (shutTo_mem ha).1)
/-- one look at a pair -/
def passStep (r : Nat × Bool) (m : Nat) : Nat × Bool := if r.1 &&& m ≠ 0 ∧ r.1 ||| m ≠ r.1 then (r.1 ||| m, true) else r
def pass (L : List (Nat × Nat)) (f : Nat) : Nat × Bool := L.foldl (fun r q => passStep r q.2) (f, false)
theorem passStep_ge (r : Nat × Bool) (m : Nat) : r.1 ≤ (passStep r m).1 := by
  unfold passStep
  split
  · exact Nat.left_le_or
  · exact Nat.le_refl _
theorem passStep_new {r : Nat × Bool} {m : Nat} (h : (passStep r m).2 = true) : r.2 = true ∨ r.1 < (passStep r m).1 := by
  unfold passStep at h ⊢
  split
  · rename_i hc
    exact .inr (Nat.lt_of_le_of_ne Nat.left_le_or (Ne.symm hc.2))
  · rename_i hc
    rw [if_neg hc] at h
    exact .inl h
theorem passF_grow {f : Nat} : ∀ (L : List (Nat × Nat)) (r : Nat × Bool), (f ≤ r.1 ∧ (r.2 = true → f < r.1)) → (f ≤ (L.foldl (fun r q => passStep r q.2) r).1 ∧ ((L.foldl (fun r q => passStep r q.2) r).2 = true → f < (L.foldl (fun r q => passStep r q.2) r).1))
  | [], _, h => h
  | q :: L, r, h => by
    rw [List.foldl_cons]
    refine passF_grow L _ ⟨Nat.le_trans h.1 (passStep_ge r q.2), fun z => ?_⟩
    rcases passStep_new z with z | z
    · exact Nat.lt_of_lt_of_le (h.2 z) (passStep_ge r q.2)
    · exact Nat.lt_of_le_of_lt h.1 z
theorem pass_grow {L : List (Nat × Nat)} {f : Nat} (h : (pass L f).2 = true) : f < (pass L f).1 := (passF_grow L (f, false) ⟨Nat.le_refl _, fun z => by cases z⟩).2 h
theorem passF_lt {n : Nat} : ∀ (L : List (Nat × Nat)) (r : Nat × Bool), (∀ q ∈ L, q.2 < 2 ^ n) → r.1 < 2 ^ n → (L.foldl (fun r q => passStep r q.2) r).1 < 2 ^ n
  | [], _, _, h => h
  | q :: L, r, hl, h => by
    rw [List.foldl_cons]
    refine passF_lt L _ (fun a ha => hl a (List.mem_cons_of_mem _ ha)) ?_
    unfold passStep
    split
    · exact Nat.or_lt_two_pow h (hl q List.mem_cons_self)
    · exact h
theorem pass_lt {n : Nat} {L : List (Nat × Nat)} {f : Nat} (hl : ∀ q ∈ L, q.2 < 2 ^ n) (h : f < 2 ^ n) : (pass L f).1 < 2 ^ n := passF_lt L _ hl h
/-- all that is joined to f: pass by pass -/
def joinN (L : List (Nat × Nat)) (f : Nat) : Nat := if h : (pass L f).2 = true ∧ f < 1024 then joinN L (pass L f).1 else (pass L f).1
termination_by 1024 - f
decreasing_by
  have := pass_grow h.1
  omega
theorem joinN_eq (L : List (Nat × Nat)) {f : Nat} (hf : f < 1024) : joinN L f = if (pass L f).2 = true then joinN L (pass L f).1 else (pass L f).1 := by
  rw [joinN]
  by_cases h : (pass L f).2 = true
  · rw [dif_pos ⟨h, hf⟩, if_pos h]
  · rw [dif_neg (fun z => h z.1), if_neg h]
theorem joinN_lt {n : Nat} {L : List (Nat × Nat)} (hl : ∀ q ∈ L, q.2 < 2 ^ n) (hn : n ≤ 10) : ∀ (k f : Nat), 1024 - f ≤ k → f < 2 ^ n → joinN L f < 2 ^ n
  | 0, f, hk, hf => by
    have h1 : 2 ^ n ≤ 2 ^ 10 := Nat.pow_le_pow_right (by decide) hn
    omega
  | k + 1, f, hk, hf => by
    have h1 : 2 ^ n ≤ 2 ^ 10 := Nat.pow_le_pow_right (by decide) hn
    have h2 := pass_lt hl hf
    rw [joinN_eq L (show f < 1024 by omega)]
    by_cases h : (pass L f).2 = true
    · rw [if_pos h]
      have h3 := pass_grow h
      exact joinN_lt hl hn k _ (by omega) h2
    · rw [if_neg h]
      exact h2
def orTo (f : Sw → Nat) (S : List (Nat × Sw)) : Nat := S.foldl (fun a q => a ||| f q.2) 0
theorem orTo_succ {f : Sw → Nat} {S : List (Nat × Sw)} {i : Nat} {q : Nat × Sw} (h : S[i]? = some q) : orTo f (S.take (i + 1)) = orTo f (S.take i) ||| f q.2 := by
  unfold orTo
  rw [take_more h, List.foldl_append]
  rfl
theorem orF_lt {f : Sw → Nat} {n : Nat} : ∀ (S : List (Nat × Sw)) (a : Nat), (∀ q ∈ S, f q.2 < 2 ^ n) → a < 2 ^ n → S.foldl (fun a q => a ||| f q.2) a < 2 ^ n
  | [], _, _, h => h
  | q :: S, a, hs, h => by
    rw [List.foldl_cons]
    exact orF_lt S _ (fun b hb => hs b (List.mem_cons_of_mem _ hb)) (Nat.or_lt_two_pow h (hs q List.mem_cons_self))
def fedN (Y : Yard) (s : Nat) : Nat := orTo Sw.feeds (shutOf Y.2 s)
def ledN (Y : Yard) (s : Nat) : Nat := orTo Sw.earths (shutOf Y.2 s)
def liveN (Y : Yard) (s : Nat) : Nat := joinN (linksOf Y.2 s) (fedN Y s)
def earthN (Y : Yard) (s : Nat) : Nat := joinN (linksOf Y.2 s) (ledN Y s)
def safeN (Y : Yard) (s : Nat) : Bool := decide (liveN Y s &&& earthN Y s = 0)
theorem fedN_lt {Y : Yard} (ok : YOk Y) (s : Nat) : fedN Y s < 2 ^ Y.1 := orF_lt _ _ (fun q hq => feeds_lt (ok.sw _ (shutTo_mem hq).1)) (Nat.two_pow_pos _)
theorem ledN_lt {Y : Yard} (ok : YOk Y) (s : Nat) : ledN Y s < 2 ^ Y.1 := orF_lt _ _ (fun q hq => earths_lt (ok.sw _ (shutTo_mem hq).1)) (Nat.two_pow_pos _)
theorem joinY_lt {Y : Yard} (ok : YOk Y) {s f : Nat} (h : f < 2 ^ Y.1) : joinN (linksOf Y.2 s) f < 2 ^ Y.1 := joinN_lt (fun _ hq => linksOf_lt ok hq) ok.n _ f (Nat.le_refl _) h
theorem liveN_lt {Y : Yard} (ok : YOk Y) (s : Nat) : liveN Y s < 2 ^ Y.1 := joinY_lt ok (fedN_lt ok s)
theorem earthN_lt {Y : Yard} (ok : YOk Y) (s : Nat) : earthN Y s < 2 ^ Y.1 := joinY_lt ok (ledN_lt ok s)
theorem pow_1024 {Y : Yard} (ok : YOk Y) : 2 ^ Y.1 ≤ 1024 := Nat.le_trans (Nat.pow_le_pow_right (by decide) ok.n) (by decide)
/-! ### links -/
def LinkAt (H : Hp) (v : V) (q : Nat × Nat) : Prop := ∃ t : Addr, v = .ref t ∧ H t = some (.tup [vN q.1, vN q.2])
theorem LinkAt.keep {H H' : Hp} {D : Addr} {us : List V} {v : V} {q : Nat × Nat} (h : LinkAt H v q) (hD : H D = some (.lst us)) (k : ∀ b o, b ≠ D → H b = some o → H' b = some o) : LinkAt H' v q := by
  obtain ⟨t, e, h1⟩ := h
  exact ⟨t, e, k t _ (ne_of h1 hD (by intro z; cases z)) h1⟩
def spLinks : Sp := fun vs H Q _ => ∃ (y : Addr) (Y : Yard) (s : Nat), vs = [.ref y, vN s] ∧ YH H y Y ∧ YOk Y ∧
  ∀ (p : Addr) (H' : Hp) (us : List V), Same H H' → H p = none → H' p = some (.lst us) → All2 (LinkAt H') us (linksOf Y.2 s) → Q (.ref p) H'
section
variable {P : Program} {w : World} {K : PySem.W.Frag} {mg : Str → Option Value} {base : Heap}
theorem go_links (c : Ct K mg) : Go P w K mg base 5 "links" spLinks := by
  have nd : (["yard", "standing", "found", "number", "thing"] : List Str).Nodup := by decide +kernel
  refine go_of (d := d_links) (N := ["yard", "standing", "found", "number", "thing"]) (ps := ["yard", "standing"]) (k := 4) c 3 rfl rfl rfl rfl ⟨rfl, rfl, rfl, nd, rfl, by decide +kernel, by decide +kernel⟩ (fun _ _ _ _ _ _ us hl => match us, hl with | [_, _], _ => rfl) (fun vs H Q E h => ?_) (fun cdv A outer s H vs Q E hr h => ?_)
  · obtain ⟨y, Y, s, rfl, _⟩ := h
    rfl
  · obtain ⟨y, Y, z, rfl, hY, hok, hq⟩ := h
    refine ⟨_, PSs.nox (pss_cons (ps_set (i := 2) nd rfl (Or.inl rfl) (pe_lst pa_nil))
      (pss_cons (ps_for PassesOwn.never rfl (pi_list (pe_g (go_shut c) hr passL (pa_cons (pv 0) (pa_cons (pv 1) pa_nil)))) (pg_tup rfl (pgs_cons (pg_name (i := 3) nd rfl (Or.inl rfl)) (pgs_cons (pg_name (i := 4) nd rfl (Or.inl rfl)) pgs_nil)))
        (pss_one (ps_if (pt_cmpR op_ne (pe_sw (gs_joins c) no_joins hr (pv 4)) pe_int (nomark _))
          (pss_one (ps_expr (pe_bm PySem.F.plainAttrs_list PySem.F.slot_list_append PySem.F.type_list_append mt_append (pv 2) (pa_cons (pe_tup (pa_cons (pv 3) (pa_cons (pe_sw (gs_joins c) no_joins hr (pv 4)) pa_nil))) pa_nil)))) pss_nil)))
      (pss_one (ps_ret (pv 2))))), ?_⟩
    refine ⟨Nat.zero_le _, fun D hD => ?_⟩
    have sD : Same H (upd H D (.lst [])) := same_new hD
    refine ⟨_, rfl, _, rfl, y, Y, z, rfl, hY.mono sD, hok, fun l H1 ss s1 nl hl ha => ?_⟩
    have hlen : ss.length = (shutOf Y.2 z).length := ha.len
    have lD : l ≠ D := fun e => by
      rw [e, upd_same] at nl
      cases nl
    have small : (shutOf Y.2 z).length ≤ 12 := Nat.le_trans (shutTo_len _ _ _) hok.len
    refine ⟨l, rfl, ⟨_, SqL.of hl⟩, for_list (K := K) (a := l) (xs := ss) (fun i σ H2 => ∃ (v3 v4 : Option V) (us : List V), σ = [some (.ref y), some (vN z), some (.ref D), v3, v4] ∧ (∀ b o, b ≠ D → H1 b = some o → H2 b = some o) ∧ H2 D = some (.lst us) ∧ us.length ≤ i ∧ All2 (LinkAt H2) us (linkTo ((shutOf Y.2 z).take i)))
      ⟨none, none, [], rfl, fun _ _ _ e => e, s1 _ _ upd_same, Nat.le_refl _, trivial⟩ (fun i σ H2 _ ⟨_, _, _, _, k, _⟩ => SqL.of (k l _ lD hl)) ?_ ?_⟩
    · rintro i x σ H2 hx ⟨v3, v4, us, rfl, k, hD2, hul, hu⟩
      obtain ⟨q, hq2, t, p, rfl, ht, dx, hp⟩ := ha.get hx
      have hi : i < 12 := by
        have := (List.getElem?_eq_some_iff.mp hx).1
        omega
      have hD1 : H1 D = some (.lst []) := s1 _ _ upd_same
      have ht2 := k t _ (ne_of ht hD1 (by intro z; cases z)) ht
      have hp2 := k p _ (ne_of hp hD1 (by intro z; cases z)) hp
      obtain ⟨hm, _⟩ := shutTo_mem (List.mem_of_getElem? hq2)
      have big : q.2.ok 1000 := (hok.sw _ hm).mono (Nat.le_trans hok.n (by decide))
      refine ⟨t, _, rfl, SqT.of ht2, rfl, _, _, rfl, _, _, rfl, rfl, ?_⟩
      refine ⟨_, rfl, p, q.2, rfl, ⟨dx, hp2⟩, big, rfl, _, rfl, ?_⟩
      by_cases h0 : q.2.joins = 0
      · refine ifnd_f (by show vN q.2.joins = _; rw [h0]; rfl) ?_
        refine ⟨_, _, us, rfl, k, hD2, by omega, ?_⟩
        rw [linkTo_succ hq2, if_pos h0, List.append_nil]
        exact hu
      · refine ifnd_t (fun e => h0 (by have := V.int.inj e; omega)) ?_
        refine ⟨_, rfl, .inl ⟨rfl, _, SqL.of hD2⟩, _, rfl, _, rfl, p, q.2, rfl, ⟨dx, hp2⟩, big, (by show 2 ≤ sizeLine; decide), fun r nr => ?_⟩
        have hDr : D ≠ r := ne_of_none hD2 nr
        refine ⟨D, _, _, rfl, rfl, by rw [upd_ne hDr]; exact hD2, small1000 (by omega), ?_⟩
        refine ⟨_, _, us ++ [.ref r], rfl, fun b o hb e => ?_, upd_same, by rw [List.length_append]; simp; omega, ?_⟩
        · have e2 := k b o hb e
          rw [upd_ne hb, upd_ne (ne_of_none e2 nr)]
          exact e2
        · rw [linkTo_succ hq2, if_neg h0]
          refine All2.snoc (hu.mono fun v u hvu => ?_) ⟨r, rfl, ?_⟩
          · exact hvu.keep hD2 fun b o hb e => by
              rw [upd_ne hb, upd_ne (ne_of_none e nr)]
              exact e
          · rw [upd_ne hDr.symm, upd_same]
    · rintro σ H2 ⟨v3, v4, us, rfl, k, hD2, hul, hu⟩
      refine ⟨_, rfl, hq D H2 us (fun b o e => ?_) hD hD2 ?_⟩
      · exact k b o (ne_of_none e hD) (s1 b o (sD b o e))
      · unfold linksOf
        rw [hlen, List.take_length] at hu
        exact hu
end
end K38
namespace K38
open PySem PySem.Spec PyProof.Rows L2
def spJoined : Sp := fun vs H Q _ => ∃ (y : Addr) (Y : Yard) (s f : Nat), vs = [.ref y, vN s, vN f] ∧ YH H y Y ∧ YOk Y ∧ f < 2 ^ Y.1 ∧ ∀ H' : Hp, Same H H' → Q (vN (joinN (linksOf Y.2 s) f)) H'
/-- a function of a yard and a standing -/
def spY (f : Yard → Nat → V) : Sp := fun vs H Q _ => ∃ (y : Addr) (Y : Yard) (s : Nat), vs = [.ref y, vN s] ∧ YH H y Y ∧ YOk Y ∧ ∀ H' : Hp, Same H H' → Q (f Y s) H'
def passTo (L : List (Nat × Nat)) (f i : Nat) : Nat × Bool := (L.take i).foldl (fun r q => passStep r q.2) (f, false)
theorem passTo_succ {L : List (Nat × Nat)} {f i : Nat} {q : Nat × Nat} (h : L[i]? = some q) : passTo L f (i + 1) = passStep (passTo L f i) q.2 := by
  unfold passTo
  rw [take_more h, List.foldl_append]
  rfl
section
variable {P : Program} {w : World} {K : PySem.W.Frag} {mg : Str → Option Value} {base : Heap}
theorem go_joined (c : Ct K mg) : Go P w K mg base 6 "joined" spJoined := by
  have nd : (["yard", "standing", "some", "pairs", "found", "grown", "number", "both"] : List Str).Nodup := by decide +kernel
  refine go_of (d := d_joined) (N := ["yard", "standing", "some", "pairs", "found", "grown", "number", "both"]) (ps := ["yard", "standing", "some"]) (k := 5) c 4 rfl rfl rfl rfl ⟨rfl, rfl, rfl, nd, rfl, by decide +kernel, by decide +kernel⟩ (fun _ _ _ _ _ _ us hl => match us, hl with | [_, _, _], _ => rfl) (fun vs H Q E h => ?_) (fun cdv A outer s H vs Q E hr h => ?_)
  · obtain ⟨y, Y, s, f, rfl, _⟩ := h
    rfl
  · obtain ⟨y, Y, z, f, rfl, hY, hok, hf, hq⟩ := h
    refine ⟨_, PSs.nox (pss_cons (ps_set (i := 3) nd rfl (Or.inl rfl) (pe_g (go_links c) hr passL (pa_cons (pv 0) (pa_cons (pv 1) pa_nil))))
      (pss_cons (ps_set (i := 4) nd rfl (Or.inl rfl) (pv 2)) (pss_cons (ps_set (i := 5) nd rfl (Or.inl rfl) pe_bl)
      (pss_cons (ps_while PassesOwn.never (pt_val (pv 5)) (pss_cons (ps_set (i := 5) nd rfl (Or.inl rfl) pe_bl)
        (pss_one (ps_for PassesOwn.never rfl (pi_list (pv 3)) (pg_tup rfl (pgs_cons (pg_name (i := 6) nd rfl (Or.inl rfl)) (pgs_cons (pg_name (i := 7) nd rfl (Or.inl rfl)) pgs_nil)))
          (pss_one (ps_if (PW.pt (pw_and (pt_cmpR op_ne (pe_op opn_and (pv 4) (pv 7)) pe_int (nomark _)) (pw_and1 (pt_cmpR op_ne (pe_op opn_or (pv 4) (pv 7)) (pv 4) (nomark _)))))
            (pss_cons (ps_set (i := 4) nd rfl (Or.inl rfl) (pe_op opn_or (pv 4) (pv 7))) (pss_one (ps_set (i := 5) nd rfl (Or.inl rfl) pe_bl))) pss_nil))))))
      (pss_one (ps_ret (pv 4))))))), ?_⟩
    refine ⟨_, rfl, _, rfl, y, Y, z, rfl, hY, hok, fun l H1 us s1 nl hl ha => ?_⟩
    refine ⟨_, rfl, ?_⟩
    have hlen := ha.len
    have hLl : ∀ q ∈ linksOf Y.2 z, q.2 < 2 ^ Y.1 := fun q h => linksOf_lt hok h
    have h1024 := pow_1024 hok
    refine ⟨fun m σ H' => ∃ (b : Bool) (f' : Nat) (v6 v7 : Option V), m = (if b = true then 1 + (1024 - f') else 0) ∧ σ = [some (.ref y), some (vN z), some (vN f), some (.ref l), some (vN f'), some (.bl b), v6, v7] ∧ H' = H1 ∧ f' < 2 ^ Y.1 ∧
      (b = true → joinN (linksOf Y.2 z) f' = joinN (linksOf Y.2 z) f) ∧ (b = false → f' = joinN (linksOf Y.2 z) f), ⟨_, true, f, none, none, rfl, rfl, rfl, hf, fun _ => rfl, fun q => nomatch q⟩, ?_⟩
    rintro m σ H' ⟨b, f', v6, v7, rfl, rfl, rfl, hf', hb1, hb2⟩
    refine ⟨_, rfl, b, rfl, ifb (fun hb => ?_) (fun hb => ?_)⟩
    · subst hb
      refine ⟨fun σ' H2 => ∃ (v6 v7 : Option V), σ' = [some (.ref y), some (vN z), some (vN f), some (.ref l), some (vN (pass (linksOf Y.2 z) f').1), some (.bl (pass (linksOf Y.2 z) f').2), v6, v7] ∧ H2 = H', ?_, ?_⟩
      · rintro σ' H2 ⟨v6, v7, rfl, rfl⟩
        have e := joinN_eq (linksOf Y.2 z) (show f' < 1024 by omega)
        have hlt := pass_lt hLl hf'
        cases hg : (pass (linksOf Y.2 z) f').2 with
        | true =>
          rw [hg, if_pos rfl, hb1 rfl] at e
          have hgr := pass_grow hg
          exact ⟨1 + (1024 - (pass (linksOf Y.2 z) f').1), by simp only [if_true]; omega, true, _, v6, v7, rfl, rfl, rfl, hlt, fun _ => e.symm, fun q => nomatch q⟩
        | false =>
          rw [hg, if_neg Bool.false_ne_true, hb1 rfl] at e
          exact ⟨0, by simp only [if_true]; omega, false, _, v6, v7, rfl, rfl, rfl, hlt, (fun q => nomatch q), fun _ => e.symm⟩
      · refine ⟨_, rfl, l, rfl, ⟨_, SqL.of hl⟩, for_list (K := K) (a := l) (xs := us) (fun i σ H2 => ∃ (v6 v7 : Option V), σ = [some (.ref y), some (vN z), some (vN f), some (.ref l), some (vN (passTo (linksOf Y.2 z) f' i).1), some (.bl (passTo (linksOf Y.2 z) f' i).2), v6, v7] ∧ H2 = H')
          ⟨v6, v7, rfl, rfl⟩ (fun i σ H2 _ ⟨_, _, _, e⟩ => by rw [e]; exact SqL.of hl) ?_ ?_⟩
        · rintro i x σ H2 hx ⟨v6, v7, rfl, rfl⟩
          obtain ⟨q, hq2, t, rfl, ht⟩ := ha.get hx
          refine ⟨t, _, rfl, SqT.of ht, rfl, _, _, rfl, _, _, rfl, rfl, ?_⟩
          have step := passTo_succ (f := f') hq2
          unfold passStep at step
          refine ⟨_, rfl, _, rfl, _, _, rfl, rfl, rfl, _, rfl, ?_⟩
          by_cases h0 : (passTo (linksOf Y.2 z) f' i).1 &&& q.2 = 0
          · refine ifnd_f (by rw [h0]; rfl) (iteF ?_)
            rw [if_neg (fun hh => hh.1 h0)] at step
            exact ⟨_, _, by rw [step]; rfl, rfl⟩
          · refine ifnd_t (fun e => h0 (by have := V.int.inj e; omega)) ?_
            refine ⟨_, rfl, _, rfl, _, _, rfl, rfl, _, rfl, rfl, _, rfl, ?_⟩
            by_cases h1 : (passTo (linksOf Y.2 z) f' i).1 ||| q.2 = (passTo (linksOf Y.2 z) f' i).1
            · refine ifnd_f (by rw [h1]) ?_
              rw [if_neg (fun hh => hh.2 h1)] at step
              exact ⟨_, _, by rw [step]; rfl, rfl⟩
            · refine ifnd_t (fun e => h1 (by have := V.int.inj e; omega)) ?_
              rw [if_pos ⟨h0, h1⟩] at step
              refine ⟨_, rfl, _, rfl, _, _, rfl, rfl, ?_⟩
              exact ⟨_, _, by rw [step]; rfl, rfl⟩
        · rintro σ H2 ⟨v6, v7, rfl, rfl⟩
          refine ⟨v6, v7, ?_, rfl⟩
          have e : passTo (linksOf Y.2 z) f' us.length = pass (linksOf Y.2 z) f' := by
            unfold passTo pass
            rw [hlen, List.take_length]
          rw [e]
    · subst hb
      refine ⟨_, rfl, ?_⟩
      rw [hb2 rfl]
      exact hq H' s1
theorem go_live (c : Ct K mg) : Go P w K mg base 7 "live" (spY fun Y s => vN (liveN Y s)) := by
  have nd : (["yard", "standing", "fed", "number", "thing"] : List Str).Nodup := by decide +kernel
  refine go_of (d := d_live) (N := ["yard", "standing", "fed", "number", "thing"]) (ps := ["yard", "standing"]) (k := 6) c 5 rfl rfl rfl rfl ⟨rfl, rfl, rfl, nd, rfl, by decide +kernel, by decide +kernel⟩ (fun _ _ _ _ _ _ us hl => match us, hl with | [_, _], _ => rfl) (fun vs H Q E h => ?_) (fun cdv A outer s H vs Q E hr h => ?_)
  · obtain ⟨y, Y, s, rfl, _⟩ := h
    rfl
  · obtain ⟨y, Y, z, rfl, hY, hok, hq⟩ := h
    refine ⟨_, PSs.nox (pss_cons (ps_set (i := 2) nd rfl (Or.inl rfl) pe_int)
      (pss_cons (ps_for PassesOwn.never rfl (pi_list (pe_g (go_shut c) hr passL (pa_cons (pv 0) (pa_cons (pv 1) pa_nil)))) (pg_tup rfl (pgs_cons (pg_name (i := 3) nd rfl (Or.inl rfl)) (pgs_cons (pg_name (i := 4) nd rfl (Or.inl rfl)) pgs_nil)))
        (pss_one (ps_set (i := 2) nd rfl (Or.inl rfl) (pe_op opn_or (pv 2) (pe_sw (gs_feeds c) no_feeds hr (pv 4))))))
      (pss_one (ps_ret (pe_g (go_joined c) hr passL (pa_cons (pv 0) (pa_cons (pv 1) (pa_cons (pv 2) pa_nil)))))))), ?_⟩
    refine ⟨_, rfl, _, rfl, y, Y, z, rfl, hY, hok, fun l H1 ss s1 nl hl ha => ?_⟩
    have hlen : ss.length = (shutOf Y.2 z).length := ha.len
    refine ⟨l, rfl, ⟨_, SqL.of hl⟩, for_list (K := K) (a := l) (xs := ss) (fun i σ H2 => ∃ (v3 v4 : Option V), σ = [some (.ref y), some (vN z), some (vN (orTo Sw.feeds ((shutOf Y.2 z).take i))), v3, v4] ∧ H2 = H1)
      ⟨none, none, rfl, rfl⟩ (fun i σ H2 _ ⟨_, _, _, e⟩ => by rw [e]; exact SqL.of hl) ?_ ?_⟩
    · rintro i x σ H2 hx ⟨v3, v4, rfl, rfl⟩
      obtain ⟨q, hq2, t, p, rfl, ht, hp⟩ := ha.get hx
      obtain ⟨hm, _⟩ := shutTo_mem (List.mem_of_getElem? hq2)
      refine ⟨t, _, rfl, SqT.of ht, rfl, _, _, rfl, _, _, rfl, rfl, ?_⟩
      refine ⟨_, rfl, _, rfl, p, q.2, rfl, hp, (hok.sw _ hm).mono (Nat.le_trans hok.n (by decide)), _, _, rfl, rfl, ?_⟩
      exact ⟨_, _, by rw [orTo_succ hq2]; rfl, rfl⟩
    · rintro σ H2 ⟨v3, v4, rfl, rfl⟩
      rw [hlen, List.take_length]
      exact ⟨_, rfl, _, rfl, _, rfl, y, Y, z, fedN Y z, rfl, hY.mono s1, hok, fedN_lt hok z, fun H3 s3 => hq H3 (s1.trans s3)⟩
theorem go_earthed (c : Ct K mg) : Go P w K mg base 7 "earthed" (spY fun Y s => vN (earthN Y s)) := by
  have nd : (["yard", "standing", "led", "number", "thing"] : List Str).Nodup := by decide +kernel
  refine go_of (d := d_earthed) (N := ["yard", "standing", "led", "number", "thing"]) (ps := ["yard", "standing"]) (k := 6) c 6 rfl rfl rfl rfl ⟨rfl, rfl, rfl, nd, rfl, by decide +kernel, by decide +kernel⟩ (fun _ _ _ _ _ _ us hl => match us, hl with | [_, _], _ => rfl) (fun vs H Q E h => ?_) (fun cdv A outer s H vs Q E hr h => ?_)
  · obtain ⟨y, Y, s, rfl, _⟩ := h
    rfl
  · obtain ⟨y, Y, z, rfl, hY, hok, hq⟩ := h
    refine ⟨_, PSs.nox (pss_cons (ps_set (i := 2) nd rfl (Or.inl rfl) pe_int)
      (pss_cons (ps_for PassesOwn.never rfl (pi_list (pe_g (go_shut c) hr passL (pa_cons (pv 0) (pa_cons (pv 1) pa_nil)))) (pg_tup rfl (pgs_cons (pg_name (i := 3) nd rfl (Or.inl rfl)) (pgs_cons (pg_name (i := 4) nd rfl (Or.inl rfl)) pgs_nil)))
        (pss_one (ps_set (i := 2) nd rfl (Or.inl rfl) (pe_op opn_or (pv 2) (pe_sw (gs_earths c) no_earths hr (pv 4))))))
      (pss_one (ps_ret (pe_g (go_joined c) hr passL (pa_cons (pv 0) (pa_cons (pv 1) (pa_cons (pv 2) pa_nil)))))))), ?_⟩
    refine ⟨_, rfl, _, rfl, y, Y, z, rfl, hY, hok, fun l H1 ss s1 nl hl ha => ?_⟩
    have hlen : ss.length = (shutOf Y.2 z).length := ha.len
    refine ⟨l, rfl, ⟨_, SqL.of hl⟩, for_list (K := K) (a := l) (xs := ss) (fun i σ H2 => ∃ (v3 v4 : Option V), σ = [some (.ref y), some (vN z), some (vN (orTo Sw.earths ((shutOf Y.2 z).take i))), v3, v4] ∧ H2 = H1)
      ⟨none, none, rfl, rfl⟩ (fun i σ H2 _ ⟨_, _, _, e⟩ => by rw [e]; exact SqL.of hl) ?_ ?_⟩
    · rintro i x σ H2 hx ⟨v3, v4, rfl, rfl⟩
      obtain ⟨q, hq2, t, p, rfl, ht, hp⟩ := ha.get hx
      obtain ⟨hm, _⟩ := shutTo_mem (List.mem_of_getElem? hq2)
      refine ⟨t, _, rfl, SqT.of ht, rfl, _, _, rfl, _, _, rfl, rfl, ?_⟩
      refine ⟨_, rfl, _, rfl, p, q.2, rfl, hp, (hok.sw _ hm).mono (Nat.le_trans hok.n (by decide)), _, _, rfl, rfl, ?_⟩
      exact ⟨_, _, by rw [orTo_succ hq2]; rfl, rfl⟩
    · rintro σ H2 ⟨v3, v4, rfl, rfl⟩
      rw [hlen, List.take_length]
      exact ⟨_, rfl, _, rfl, _, rfl, y, Y, z, ledN Y z, rfl, hY.mono s1, hok, ledN_lt hok z, fun H3 s3 => hq H3 (s1.trans s3)⟩
theorem dec_nat (a b : Nat) : decide (V.int (a : Int) = V.int (b : Int)) = decide (a = b) := by
  by_cases h : a = b
  · rw [decide_eq_true h, decide_eq_true (by rw [h])]
  · rw [decide_eq_false h, decide_eq_false (fun e => h (by have := V.int.inj e; omega))]
theorem go_safe (c : Ct K mg) : Go P w K mg base 8 "safe" (spY fun Y s => .bl (safeN Y s)) := by
  refine go_of (d := d_safe) (N := ["yard", "standing"]) (ps := ["yard", "standing"]) (k := 7) c 7 rfl rfl rfl rfl ⟨rfl, rfl, rfl, by decide +kernel, rfl, by decide +kernel, by decide +kernel⟩ (fun _ _ _ _ _ _ us hl => match us, hl with | [_, _], _ => rfl) (fun vs H Q E h => ?_) (fun cdv A outer s H vs Q E hr h => ?_)
  · obtain ⟨y, Y, s, rfl, _⟩ := h
    rfl
  · obtain ⟨y, Y, z, rfl, hY, hok, hq⟩ := h
    refine ⟨_, PSs.nox (pss_one (ps_ret (pe_cmpR op_eq (pe_op opn_and (pe_g (go_live c) hr passL (pa_cons (pv 0) (pa_cons (pv 1) pa_nil))) (pe_g (go_earthed c) hr passL (pa_cons (pv 0) (pa_cons (pv 1) pa_nil)))) pe_int (nomark _)))), ?_⟩
    refine ⟨_, rfl, _, rfl, y, Y, z, rfl, hY, hok, fun H1 s1 => ?_⟩
    refine ⟨_, rfl, _, rfl, y, Y, z, rfl, hY.mono s1, hok, fun H2 s2 => ?_⟩
    refine ⟨_, _, rfl, rfl, rfl, ?_⟩
    have e := dec_nat (liveN Y z &&& earthN Y z) 0
    show Q (V.bl (decide (V.int ((liveN Y z &&& earthN Y z : Nat) : Int) = V.int ((0 : Nat) : Int)))) H2
    rw [e]
    exact hq H2 (s1.trans s2)
end
end K38
namespace K38
open PySem PySem.Spec PyProof.Rows L2
/-! ### deeds: plain -/
def lowBit (m : Nat) : Nat := (bitsOf m).headD 0
def loadedS (Y : Yard) (s i : Nat) (sw : Sw) : Bool :=
  if sw.gentle = false then false else
  if joinN (linksOf Y.2 (clrN s (2 ^ i))) (2 ^ lowBit sw.joins) &&& sw.joins = sw.joins then false else
  !decide (liveN Y (clrN s (2 ^ i)) &&& sw.joins = 0)
def loadedN (Y : Yard) (s i : Nat) : Bool := match Y.2[i]? with
  | some sw => loadedS Y s i sw
  | none => false
def turnN (Y : Yard) (s i : Nat) : Except Str Nat :=
  if loadedN Y s i = true then .error "Loaded" else if safeN Y (togN s (2 ^ i)) = true then .ok (togN s (2 ^ i)) else .error "Shorted"
def everyN (Y : Yard) : Nat := 2 ^ Y.2.length - 1
def keepsN (Y : Yard) (place locks : Nat) : Bool := decide (liveN Y (clrN (everyN Y) locks) &&& place = 0)
def canN (sw : Sw) : Bool := sw.gentle || !decide (sw.feeds = 0)
def ownStep (s pl i : Nat) (sw : Sw) (r : Nat × Nat) : Nat × Nat := if s.testBit i = true ∧ sw.earths &&& pl ≠ 0 then (r.1 ||| 2 ^ i, r.2 ||| sw.earths) else r
def ownTo (L : List Sw) (s pl k : Nat) : Nat × Nat := (List.range k).foldl (fun r i => match L[i]? with | some sw => ownStep s pl i sw r | none => r) (0, 0)
def ownOf (Y : Yard) (s pl : Nat) : Nat × Nat := ownTo Y.2 s pl Y.2.length
theorem ownTo_succ {L : List Sw} {s pl k : Nat} {sw : Sw} (h : L[k]? = some sw) : ownTo L s pl (k + 1) = ownStep s pl k sw (ownTo L s pl k) := by
  unfold ownTo
  rw [List.range_succ, List.foldl_append]
  show (match L[k]? with | some sw => ownStep s pl k sw _ | none => _) = _
  rw [h]
theorem mem_bits {n k : Nat} (hk : k < 12) (h : n.testBit k = true) : k ∈ bitsOf n := List.mem_filter.mpr ⟨List.mem_range.mpr hk, h⟩
theorem bits_head {sw : Sw} {n : Nat} (hn : n ≤ 10) (h : sw.ok n) (hg : sw.gentle = true) : ∃ a r, bitsOf sw.joins = a :: r ∧ a < n := by
  cases sw with
  | spl a b =>
    have h1 : a ∈ bitsOf (2 ^ a ||| 2 ^ b) := mem_bits (by have := h.1; omega) (by rw [Nat.testBit_or, Nat.testBit_two_pow_self]; rfl)
    have hlt : (2 ^ a ||| 2 ^ b) < 2 ^ n := Nat.or_lt_two_pow (pow_lt2 h.1) (pow_lt2 h.2.1)
    show ∃ c r, bitsOf (2 ^ a ||| 2 ^ b) = c :: r ∧ c < n
    cases e : bitsOf (2 ^ a ||| 2 ^ b) with
    | nil =>
      rw [e] at h1
      cases h1
    | cons c r =>
      refine ⟨c, r, rfl, ?_⟩
      have hc : c ∈ bitsOf (2 ^ a ||| 2 ^ b) := by
        rw [e]
        exact List.mem_cons_self
      have ht := (List.mem_filter.mp hc).2
      rcases Nat.lt_or_ge c n with q | q
      · exact q
      · have z := Nat.testBit_lt_two_pow (Nat.lt_of_lt_of_le hlt (Nat.pow_le_pow_right (by decide) q))
        rw [z] at ht
        cases ht
  | feed _ => cases hg
  | earth _ => cases hg
  | brk _ _ => cases hg
def spLoaded : Sp := fun vs H Q _ => ∃ (y : Addr) (Y : Yard) (s i : Nat), vs = [.ref y, vN s, vN i] ∧ YH H y Y ∧ YOk Y ∧ i < Y.2.length ∧ ∀ H' : Hp, Same H H' → Q (.bl (loadedN Y s i)) H'
/-- an answer, or a refusal by its class -/
def Ans (K : PySem.W.Frag) (H : Hp) (Q : VK) (E : XK) (r : Except Str Nat) : Prop := match r with
  | .ok n => ∀ H' : Hp, Same H H' → Q (vN n) H'
  | .error x => ∀ H' : Hp, Same H H' → E (.ref (He.ga K x)) none H'
def spTurned (K : PySem.W.Frag) : Sp := fun vs H Q E => ∃ (y : Addr) (Y : Yard) (s i : Nat), vs = [.ref y, vN s, vN i] ∧ YH H y Y ∧ YOk Y ∧ i < Y.2.length ∧ Ans K H Q E (turnN Y s i)
def spEvery : Sp := fun vs H Q _ => ∃ (y : Addr) (Y : Yard), vs = [.ref y] ∧ YH H y Y ∧ YOk Y ∧ Q (vN (everyN Y)) H
def spKeeps : Sp := fun vs H Q _ => ∃ (y : Addr) (Y : Yard) (pl lk : Nat), vs = [.ref y, vN pl, vN lk] ∧ YH H y Y ∧ YOk Y ∧ ∀ H' : Hp, Same H H' → Q (.bl (keepsN Y pl lk)) H'
def spCan : Sp := fun vs H Q _ => ∃ (t : Addr) (sw : Sw), vs = [.ref t] ∧ H t = some (.tup sw.parts) ∧ sw.ok 1000 ∧ ∀ H' : Hp, Same H H' → Q (.bl (canN sw)) H'
def spOwn : Sp := fun vs H Q _ => ∃ (y : Addr) (Y : Yard) (s pl : Nat), vs = [.ref y, vN s, vN pl] ∧ YH H y Y ∧ YOk Y ∧ ∀ (p : Addr) (H' : Hp), Same H H' → H p = none → H' p = some (.tup [vN (ownOf Y s pl).1, vN (ownOf Y s pl).2]) → Q (.ref p) H'
section
variable {P : Program} {w : World} {K : PySem.W.Frag} {mg : Str → Option Value} {base : Heap}
theorem go_loaded (c : Ct K mg) : Go P w K mg base 8 "loaded" spLoaded := by
  have nd : (["yard", "standing", "number", "thing", "apart", "both"] : List Str).Nodup := by decide +kernel
  refine go_of (d := d_loaded) (N := ["yard", "standing", "number", "thing", "apart", "both"]) (ps := ["yard", "standing", "number"]) (k := 7) c 8 rfl rfl rfl rfl ⟨rfl, rfl, rfl, nd, rfl, by decide +kernel, by decide +kernel⟩ (fun _ _ _ _ _ _ us hl => match us, hl with | [_, _, _], _ => rfl) (fun vs H Q E h => ?_) (fun cdv A outer s H vs Q E hr h => ?_)
  · obtain ⟨y, Y, s, i, rfl, _⟩ := h
    rfl
  · obtain ⟨y, Y, z, i, rfl, hY, hok, hi, hq⟩ := h
    refine ⟨_, PSs.nox (pss_cons (ps_set (i := 3) nd rfl (Or.inl rfl) (pe_g (go_switch_of c) hr passL (pa_cons (pe_ix ix_list (pe_ix ix_tup (pv 0) pe_int (fun _ _ => rfl)) (pv 2) (fun _ _ => rfl)) pa_nil)))
      (pss_cons (ps_if (pt_not (pt_val (pe_sw (gs_gentle c) no_gentle hr (pv 3)))) (pss_one (ps_ret pe_bl)) pss_nil)
      (pss_cons (ps_set (i := 4) nd rfl (Or.inl rfl) (pe_op opn_clr (pv 1) (pe_un un_inv (pe_op opn_one pe_int (pv 2)))))
      (pss_cons (ps_set (i := 5) nd rfl (Or.inl rfl) (pe_sw (gs_joins c) no_joins hr (pv 3)))
      (pss_cons (ps_if (pt_cmpR op_eq (pe_op opn_and (pe_g (go_joined c) hr passL (pa_cons (pv 0) (pa_cons (pv 4) (pa_cons (pe_op opn_one pe_int (pe_ix ix_list (pe_g (go_members c) hr passL (pa_cons (pv 5) pa_nil)) pe_int (fun _ _ => rfl))) pa_nil)))) (pv 5)) (pv 5) (nomark _)) (pss_one (ps_ret pe_bl)) pss_nil)
      (pss_one (ps_ret (pe_cmpR op_ne (pe_op opn_and (pe_g (go_live c) hr passL (pa_cons (pv 0) (pa_cons (pv 4) pa_nil))) (pv 5)) pe_int (nomark _))))))))), ?_⟩
    obtain ⟨l, us, hA⟩ := hY
    obtain ⟨sw, hsw⟩ : ∃ sw, Y.2[i]? = some sw := ⟨_, List.getElem?_eq_getElem hi⟩
    obtain ⟨v, hv, t, rfl, ht⟩ := hA.sw.get' hsw
    have e0 : loadedN Y z i = loadedS Y z i sw := by
      unfold loadedN
      rw [hsw]
    rw [e0] at hq
    unfold loadedS at hq
    have big := hok.big hsw
    have hok1 := hok.sw sw (List.mem_of_getElem? hsw)
    refine ⟨_, rfl, y, _, 1, _, rfl, rfl, SqT.of hA.tp, rfl, _, rfl, l, _, (i : Int), _, rfl, rfl, SqL.of hA.ls, atI_nat hv, t, sw, rfl, ht, big, fun p H1 s1 np oa => ?_⟩
    refine ⟨_, rfl, p, sw, rfl, oa, big, sw.gentle, rfl, ?_⟩
    cases hg : sw.gentle with
    | false =>
      rw [if_pos hg] at hq
      exact iteT (hq H1 s1)
    | true =>
      rw [if_neg (by rw [hg]; exact fun z => nomatch z)] at hq
      refine iteF ?_
      have hi12 : i < 12 := Nat.lt_of_lt_of_le hi hok.len
      refine ⟨_, rfl, _, rfl, i, rfl, rfl, by omega, _, rfl, z, 2 ^ i, rfl, rfl, ?_⟩
      refine ⟨_, rfl, p, sw, rfl, oa, big, ?_⟩
      have hj : sw.joins < 4096 := Nat.lt_of_lt_of_le (joins_lt hok1) (Nat.le_trans (pow_1024 hok) (by decide))
      obtain ⟨a, r, ha, han⟩ := bits_head hok.n hok1 hg
      have hlow : lowBit sw.joins = a := by
        unfold lowBit
        rw [ha]
        rfl
      rw [hlow] at hq
      have hY1 : YH H1 y Y := ⟨l, us, hA.mono s1⟩
      refine ⟨_, rfl, _, rfl, _, rfl, sw.joins, rfl, hj, fun m H2 s2 nm hm => ?_⟩
      refine ⟨m, _, 0, _, rfl, rfl, SqL.of hm, (by rw [ha]; exact atI_nat (j := 0) rfl), a, rfl, rfl, by have := hok.n; omega, ?_⟩
      refine ⟨y, Y, clrN z (2 ^ i), 2 ^ a, rfl, hY1.mono s2, hok, pow_lt2 han, fun H3 s3 => ?_⟩
      refine ⟨_, rfl, _, _, rfl, rfl, _, rfl, rfl, _, rfl, ?_⟩
      by_cases h1 : joinN (linksOf Y.2 (clrN z (2 ^ i))) (2 ^ a) &&& sw.joins = sw.joins
      · rw [if_pos h1] at hq
        refine ifd_t (by rw [h1]) ?_
        exact hq H3 ((s1.trans s2).trans s3)
      · rw [if_neg h1] at hq
        refine ifd_f (fun e => h1 (by have := V.int.inj e; omega)) ?_
        refine ⟨_, rfl, _, rfl, y, Y, clrN z (2 ^ i), rfl, (hY1.mono s2).mono s3, hok, fun H4 s4 => ?_⟩
        refine ⟨_, rfl, _, _, rfl, rfl, rfl, ?_⟩
        have e := dec_nat (liveN Y (clrN z (2 ^ i)) &&& sw.joins) 0
        show Q (V.bl (!decide (V.int ((liveN Y (clrN z (2 ^ i)) &&& sw.joins : Nat) : Int) = V.int ((0 : Nat) : Int)))) H4
        rw [e]
        exact hq H4 (((s1.trans s2).trans s3).trans s4)
theorem go_turned (c : Ct K mg) : Go P w K mg base 9 "turned" (spTurned K) := by
  have nd : (["yard", "standing", "number", "behind"] : List Str).Nodup := by decide +kernel
  refine go_of (d := d_turned) (N := ["yard", "standing", "number", "behind"]) (ps := ["yard", "standing", "number"]) (k := 8) c 9 rfl rfl rfl rfl ⟨rfl, rfl, rfl, nd, rfl, by decide +kernel, by decide +kernel⟩ (fun _ _ _ _ _ _ us hl => match us, hl with | [_, _, _], _ => rfl) (fun vs H Q E h => ?_) (fun cdv A outer s H vs Q E hr h => ?_)
  · obtain ⟨y, Y, s, i, rfl, _⟩ := h
    rfl
  · obtain ⟨y, Y, z, i, rfl, hY, hok, hi, hq⟩ := h
    refine ⟨_, pss_cons (ps_if (PW.pt (pw_or (pt_cmpR op_lt (pv 2) pe_int (nomark _)) (pw_or1 (pt_cmpR op_ge (pv 2) (pe_callB call_len_seq (by rfl) (c.free "len") PySem.boot_len (pa_cons (pe_ix ix_tup (pv 0) pe_int (fun _ _ => rfl)) pa_nil)) (nomark _))))) (pss_one (ps_rs c (takes_of rfl rfl rfl rfl))) pss_nil)
      (pss_cons (ps_if (pt_val (pe_g (go_loaded c) hr passL (pa_cons (pv 0) (pa_cons (pv 1) (pa_cons (pv 2) pa_nil))))) (pss_one (ps_rs c (takes_of rfl rfl rfl rfl))) pss_nil)
      (pss_cons (ps_set (i := 3) nd rfl (Or.inl rfl) (pe_op opn_xor (pv 1) (pe_op opn_one pe_int (pv 2))))
      (pss_cons (ps_if (pt_not (pt_val (pe_g (go_safe c) hr passL (pa_cons (pv 0) (pa_cons (pv 3) pa_nil))))) (pss_one (ps_rs c (takes_of rfl rfl rfl rfl))) pss_nil)
      (pss_one (ps_ret (pv 3)))))), ?_⟩
    obtain ⟨l, us, hA⟩ := id hY
    have hlen := hA.sw.len
    have hi12 : i < 12 := Nat.lt_of_lt_of_le hi hok.len
    refine ⟨_, rfl, _, _, rfl, rfl, _, rfl, ifF (decide_eq_false (by omega)) ?_⟩
    refine ⟨_, rfl, _, rfl, y, _, 1, _, rfl, rfl, SqT.of hA.tp, rfl, l, us, rfl, .inl (SqL.of hA.ls), _, _, rfl, rfl, _, rfl, ifF (decide_eq_false (by omega)) ?_⟩
    refine ⟨_, rfl, _, rfl, _, rfl, y, Y, z, i, rfl, hY, hok, hi, fun H1 s1 => ⟨_, rfl, ?_⟩⟩
    unfold turnN at hq
    cases hl : loadedN Y z i with
    | true =>
      rw [hl, if_pos rfl] at hq
      exact iteT (hq H1 s1)
    | false =>
      rw [hl, if_neg Bool.false_ne_true] at hq
      refine iteF ?_
      refine ⟨_, rfl, _, rfl, i, rfl, rfl, by omega, z, 2 ^ i, rfl, rfl, ?_⟩
      refine ⟨_, rfl, _, rfl, y, Y, togN z (2 ^ i), rfl, hY.mono s1, hok, fun H2 s2 => ⟨_, rfl, ?_⟩⟩
      cases hs : safeN Y (togN z (2 ^ i)) with
      | true =>
        rw [hs, if_pos rfl] at hq
        exact iteF ⟨_, rfl, hq H2 (s1.trans s2)⟩
      | false =>
        rw [hs, if_neg Bool.false_ne_true] at hq
        exact iteT (hq H2 (s1.trans s2))
theorem go_every (c : Ct K mg) : Go P w K mg base 1 "every_switch" spEvery := by
  refine go_of (d := d_every_switch) (N := ["yard"]) (ps := ["yard"]) (k := 0) c 10 rfl rfl rfl rfl ⟨rfl, rfl, rfl, by decide +kernel, rfl, by decide +kernel, by decide +kernel⟩ (fun _ _ _ _ _ _ us hl => match us, hl with | [_], _ => rfl) (fun vs H Q E h => ?_) (fun cdv A outer s H vs Q E hr h => ?_)
  · obtain ⟨y, Y, rfl, _⟩ := h
    rfl
  · obtain ⟨y, Y, rfl, ⟨l, us, hA⟩, hok, hq⟩ := h
    refine ⟨_, PSs.nox (pss_one (ps_ret (pe_op op_subN (pe_op opn_one pe_int (pe_callB call_len_seq (by rfl) (c.free "len") PySem.boot_len (pa_cons (pe_ix ix_tup (pv 0) pe_int (fun _ _ => rfl)) pa_nil))) pe_int))), ?_⟩
    have hlen := hA.sw.len
    have h12 := hok.len
    refine ⟨_, rfl, y, _, 1, _, rfl, rfl, SqT.of hA.tp, rfl, l, us, rfl, .inl (SqL.of hA.ls), us.length, rfl, rfl, by omega, 2 ^ us.length, 1, rfl, rfl, Nat.one_le_two_pow, ?_⟩
    rw [hlen]
    exact hq
theorem go_keeps (c : Ct K mg) : Go P w K mg base 8 "keeps_dead" spKeeps := by
  refine go_of (d := d_keeps_dead) (N := ["yard", "place", "locks"]) (ps := ["yard", "place", "locks"]) (k := 7) c 11 rfl rfl rfl rfl ⟨rfl, rfl, rfl, by decide +kernel, rfl, by decide +kernel, by decide +kernel⟩ (fun _ _ _ _ _ _ us hl => match us, hl with | [_, _, _], _ => rfl) (fun vs H Q E h => ?_) (fun cdv A outer s H vs Q E hr h => ?_)
  · obtain ⟨y, Y, p, l, rfl, _⟩ := h
    rfl
  · obtain ⟨y, Y, pl, lk, rfl, hY, hok, hq⟩ := h
    refine ⟨_, PSs.nox (pss_one (ps_ret (pe_cmpR op_eq (pe_op opn_and (pe_g (go_live c) hr passL (pa_cons (pv 0) (pa_cons (pe_op opn_clr (pe_g (go_every c) hr passL (pa_cons (pv 0) pa_nil)) (pe_un un_inv (pv 2))) pa_nil))) (pv 1)) pe_int (nomark _)))), ?_⟩
    refine ⟨_, rfl, _, rfl, y, Y, rfl, hY, hok, _, rfl, _, rfl, everyN Y, lk, rfl, rfl, y, Y, _, rfl, hY, hok, fun H1 s1 => ?_⟩
    refine ⟨_, rfl, _, _, rfl, rfl, rfl, ?_⟩
    have e := dec_nat (liveN Y (clrN (everyN Y) lk) &&& pl) 0
    show Q (V.bl (decide (V.int ((liveN Y (clrN (everyN Y) lk) &&& pl : Nat) : Int) = V.int ((0 : Nat) : Int)))) H1
    rw [e]
    exact hq H1 s1
theorem go_can (c : Ct K mg) : Go P w K mg base 4 "can_be_locked" spCan := by
  have nd : (["switch", "thing"] : List Str).Nodup := by decide +kernel
  refine go_of (d := d_can_be_locked) (N := ["switch", "thing"]) (ps := ["switch"]) (k := 3) c 12 rfl rfl rfl rfl ⟨rfl, rfl, rfl, nd, rfl, by decide +kernel, by decide +kernel⟩ (fun _ _ _ _ _ _ us hl => match us, hl with | [_], _ => rfl) (fun vs H Q E h => ?_) (fun cdv A outer s H vs Q E hr h => ?_)
  · obtain ⟨t, sw, rfl, _⟩ := h
    rfl
  · obtain ⟨t, sw, rfl, ht, hk, hq⟩ := h
    refine ⟨_, PSs.nox (pss_cons (ps_set (i := 1) nd rfl (Or.inl rfl) (pe_g (go_switch_of c) hr passL (pa_cons (pv 0) pa_nil)))
      (pss_one (ps_ret (pe_or (pe_sw (gs_gentle c) no_gentle hr (pv 1)) (pe_one (pe_cmpR op_ne (pe_sw (gs_feeds c) no_feeds hr (pv 1)) pe_int (nomark _))))))), ?_⟩
    refine ⟨_, rfl, t, sw, rfl, ht, hk, fun p H1 s1 np oa => ?_⟩
    refine ⟨_, rfl, p, sw, rfl, oa, hk, sw.gentle, rfl, ?_⟩
    unfold canN at hq
    cases hg : sw.gentle with
    | true =>
      rw [hg] at hq
      exact iteT (hq H1 s1)
    | false =>
      rw [hg] at hq
      refine iteF ⟨_, rfl, p, sw, rfl, oa, hk, rfl, ?_⟩
      have e := dec_nat sw.feeds 0
      show Q (V.bl (!decide (V.int ((sw.feeds : Nat) : Int) = V.int ((0 : Nat) : Int)))) H1
      rw [e]
      exact hq H1 s1
theorem go_own (c : Ct K mg) : Go P w K mg base 4 "own_earths" spOwn := by
  have nd : (["yard", "standing", "place", "earths", "bars", "number", "switch", "bar"] : List Str).Nodup := by decide +kernel
  refine go_of (d := d_own_earths) (N := ["yard", "standing", "place", "earths", "bars", "number", "switch", "bar"]) (ps := ["yard", "standing", "place"]) (k := 3) c 13 rfl rfl rfl rfl ⟨rfl, rfl, rfl, nd, rfl, by decide +kernel, by decide +kernel⟩ (fun _ _ _ _ _ _ us hl => match us, hl with | [_, _, _], _ => rfl) (fun vs H Q E h => ?_) (fun cdv A outer s H vs Q E hr h => ?_)
  · obtain ⟨y, Y, s, pl, rfl, _⟩ := h
    rfl
  · obtain ⟨y, Y, z, pl, rfl, ⟨l, us, hA⟩, hok, hq⟩ := h
    refine ⟨_, PSs.nox (pss_cons (ps_set (i := 3) nd rfl (Or.inl rfl) pe_int) (pss_cons (ps_set (i := 4) nd rfl (Or.inl rfl) pe_int)
      (pss_cons (ps_for PassesOwn.never rfl (pi_enum rfl (c.free "enumerate") (pa_cons (pe_ix ix_tup (pv 0) pe_int (fun _ _ => rfl)) pa_nil)) (pg_tup rfl (pgs_cons (pg_name (i := 5) nd rfl (Or.inl rfl)) (pgs_cons (pg_name (i := 6) nd rfl (Or.inl rfl)) pgs_nil)))
        (pss_cons (ps_set (i := 7) nd rfl (Or.inl rfl) (pe_sw (gs_earths c) no_earths hr (pe_g (go_switch_of c) hr passL (pa_cons (pv 6) pa_nil))))
        (pss_one (ps_if (PW.pt (pw_and (pt_bit (pv 1) (pv 5)) (pw_and1 (pt_cmpR op_ne (pe_op opn_and (pv 7) (pv 2)) pe_int (nomark _)))))
          (pss_cons (ps_set (i := 3) nd rfl (Or.inl rfl) (pe_op opn_or (pv 3) (pe_op opn_one pe_int (pv 5)))) (pss_one (ps_set (i := 4) nd rfl (Or.inl rfl) (pe_op opn_or (pv 4) (pv 7))))) pss_nil))))
      (pss_one (ps_ret (pe_tup (pa_cons (pv 3) (pa_cons (pv 4) pa_nil)))))))), ?_⟩
    have hlen : us.length = Y.2.length := hA.sw.len
    refine ⟨_, rfl, y, _, 1, _, rfl, rfl, SqT.of hA.tp, rfl, l, us, rfl, SqL.of hA.ls, ?_⟩
    refine for_it (walk_enum (K := K) (a := l) (xs := us)) (fun i σ H2 => ∃ v5 v6 v7 : Option V, σ = [some (.ref y), some (vN z), some (vN pl), some (vN (ownTo Y.2 z pl i).1), some (vN (ownTo Y.2 z pl i).2), v5, v6, v7] ∧ Same H H2) ⟨none, none, none, rfl, Same.refl H⟩ (fun i σ H2 _ ⟨_, _, _, _, s2⟩ => SqL.of (s2 l _ hA.ls)) ?_ ?_
    · rintro i x σ H2 H3 hi ⟨v5, v6, v7, rfl, s2⟩ ⟨T, a, b, rfl, nT, rfl, ea, eb⟩
      cases ea
      obtain ⟨sw, hsw, t, rfl, ht⟩ := hA.sw.get eb
      have s3 : Same H (upd H2 T (.tup [.int (i : Nat), .ref t])) := s2.trans (same_new nT)
      have big := hok.big hsw
      have step := ownTo_succ (s := z) (pl := pl) hsw
      unfold ownStep at step
      refine ⟨T, _, rfl, SqT.of upd_same, rfl, _, _, rfl, _, _, rfl, rfl, ?_⟩
      refine ⟨_, rfl, t, sw, rfl, s3 t _ ht, big, fun p H4 s4 np oa => ⟨p, sw, rfl, oa, big, ?_⟩⟩
      have s5 := s3.trans s4
      refine ⟨_, rfl, _, rfl, z, i, rfl, rfl, _, rfl, ifb (fun hb => ?_) (fun hb => ?_)⟩
      · refine ⟨_, rfl, _, rfl, _, _, rfl, rfl, rfl, _, rfl, ?_⟩
        by_cases h0 : sw.earths &&& pl = 0
        · refine ifnd_f (by rw [h0]; rfl) ?_
          rw [if_neg (fun hh => hh.2 h0)] at step
          exact ⟨_, _, _, by rw [step]; rfl, s5⟩
        · refine ifnd_t (fun e => h0 (by have := V.int.inj e; omega)) ?_
          rw [if_pos ⟨hb, h0⟩] at step
          have : i < 12 := by have := hok.len; omega
          refine ⟨_, rfl, _, rfl, i, rfl, rfl, by omega, _, _, rfl, rfl, _, rfl, _, rfl, _, _, rfl, rfl, ?_⟩
          exact ⟨_, _, _, by rw [step]; rfl, s5⟩
      · refine iteF ?_
        rw [if_neg (fun hh => by rw [hb] at hh; exact Bool.false_ne_true hh.1)] at step
        exact ⟨_, _, _, by rw [step]; rfl, s5⟩
    · rintro σ H2 ⟨v5, v6, v7, rfl, s2⟩
      rw [hlen]
      refine ⟨_, rfl, _, rfl, (by show 2 ≤ sizeLine; decide), fun p np => hq p _ (same_mut' s2 np) (s2.free np) upd_same⟩
end
end K38
namespace K38
open PySem PySem.Spec PyProof.Rows L2
/-! ### the board: plain -/
structure Bd where
  Y : Yard
  sh : Nat
  lk : Nat
  gv : List (Nat × Nat)
  last : Nat
def heldN (B : Bd) : Nat := B.gv.foldl (fun a q => a ||| q.2) 0
def turnB (B : Bd) (i : Nat) : Except Str Bd := match B.Y.2[i]? with
  | none => .error "NoSwitch"
  | some _ => if B.lk.testBit i = true then .error "Locked" else if (heldN B).testBit i = true then .error "Held" else match turnN B.Y B.sh i with
    | .ok s => .ok { B with sh := s }
    | .error x => .error x
def lockB (B : Bd) (i : Nat) : Except Str Bd := match B.Y.2[i]? with
  | none => .error "NoSwitch"
  | some sw => if canN sw = false then .error "NoLock" else if B.sh.testBit i = true then .error "NotOpen" else if B.lk.testBit i = true then .error "Locked" else .ok { B with lk := B.lk ||| 2 ^ i }
def unlockB (B : Bd) (i : Nat) : Except Str Bd := match B.Y.2[i]? with
  | none => .error "NoSwitch"
  | some _ => if B.lk.testBit i = false then .error "NotLocked" else if (heldN B).testBit i = true then .error "Held" else .ok { B with lk := togN B.lk (2 ^ i) }
def permitB (B : Bd) (pl : Nat) : Except Str Bd :=
  if (ownOf B.Y B.sh pl).2 = pl then (if keepsN B.Y pl B.lk = true then .ok { B with last := B.last + 1, gv := B.gv ++ [(B.last + 1, (ownOf B.Y B.sh pl).1 ||| B.lk)] } else .error "NotDead") else .error "NotEarthed"
def hasB (B : Bd) (n : Nat) : Bool := B.gv.any fun q => decide (q.1 = n)
def dropB (B : Bd) (n : Nat) : Bd := { B with gv := B.gv.filter fun q => decide (q.1 ≠ n) }
def backB (B : Bd) (n : Nat) : Except Str Bd := if hasB B n = true then .ok (dropB B n) else .error "NoPermit"
structure BOk (B : Bd) : Prop where
  y : YOk B.Y
  sh : B.sh < 4096
  lk : B.lk < 4096
  gv : ∀ q ∈ B.gv, q.1 ≤ B.last
  gl : B.gv.length ≤ B.last
theorem pow12 {i : Nat} (h : i < 12) : 2 ^ i < 2 ^ 12 := pow_lt2 h
theorem turnN_lt {Y : Yard} (ok : YOk Y) {s i t : Nat} (hs : s < 4096) (hi : i < Y.2.length) (h : turnN Y s i = .ok t) : t < 4096 := by
  unfold turnN at h
  split at h
  · cases h
  · split at h
    · cases h
      exact tog_lt (k := 12) hs (pow12 (Nat.lt_of_lt_of_le hi ok.len))
    · cases h
theorem ix_lt {Y : Yard} (ok : YOk Y) {i : Nat} {sw : Sw} (h : Y.2[i]? = some sw) : i < 12 := Nat.lt_of_lt_of_le (List.getElem?_eq_some_iff.mp h).1 ok.len
theorem turnB_ok {B B' : Bd} {i : Nat} (ok : BOk B) (h : turnB B i = .ok B') : BOk B' ∧ B'.Y = B.Y ∧ B'.last = B.last := by
  unfold turnB at h
  split at h
  · cases h
  · rename_i sw hsw
    split at h
    · cases h
    · split at h
      · cases h
      · split at h
        · rename_i t ht
          cases h
          exact ⟨⟨ok.y, turnN_lt ok.y ok.sh (List.getElem?_eq_some_iff.mp hsw).1 ht, ok.lk, ok.gv, ok.gl⟩, rfl, rfl⟩
        · cases h
theorem lockB_ok {B B' : Bd} {i : Nat} (ok : BOk B) (h : lockB B i = .ok B') : BOk B' ∧ B'.Y = B.Y ∧ B'.last = B.last := by
  unfold lockB at h
  split at h
  · cases h
  · rename_i sw hsw
    split at h
    · cases h
    · split at h
      · cases h
      · split at h
        · cases h
        · cases h
          exact ⟨⟨ok.y, ok.sh, Nat.or_lt_two_pow (n := 12) ok.lk (pow12 (ix_lt ok.y hsw)), ok.gv, ok.gl⟩, rfl, rfl⟩
theorem unlockB_ok {B B' : Bd} {i : Nat} (ok : BOk B) (h : unlockB B i = .ok B') : BOk B' ∧ B'.Y = B.Y ∧ B'.last = B.last := by
  unfold unlockB at h
  split at h
  · cases h
  · rename_i sw hsw
    split at h
    · cases h
    · split at h
      · cases h
      · cases h
        exact ⟨⟨ok.y, ok.sh, tog_lt (k := 12) ok.lk (pow12 (ix_lt ok.y hsw)), ok.gv, ok.gl⟩, rfl, rfl⟩
theorem permitB_ok {B B' : Bd} {i : Nat} (ok : BOk B) (h : permitB B i = .ok B') : BOk B' ∧ B'.Y = B.Y ∧ B'.last = B.last + 1 := by
  unfold permitB at h
  split at h
  · split at h
    · cases h
      refine ⟨⟨ok.y, ok.sh, ok.lk, fun q hq => ?_, ?_⟩, rfl, rfl⟩
      · rcases List.mem_append.mp hq with hq | hq
        · exact Nat.le_succ_of_le (ok.gv q hq)
        · have e : q = (B.last + 1, (ownOf B.Y B.sh i).1 ||| B.lk) := by simpa using hq
          rw [e]
          exact Nat.le_refl _
      · show (B.gv ++ [_]).length ≤ B.last + 1
        rw [List.length_append]
        exact Nat.succ_le_succ ok.gl
    · cases h
  · cases h
theorem backB_ok {B B' : Bd} {i : Nat} (ok : BOk B) (h : backB B i = .ok B') : BOk B' ∧ B'.Y = B.Y ∧ B'.last = B.last := by
  unfold backB at h
  split at h
  · cases h
    exact ⟨⟨ok.y, ok.sh, ok.lk, fun q hq => ok.gv q (List.mem_filter.mp hq).1, Nat.le_trans (List.length_filter_le _ _) ok.gl⟩, rfl, rfl⟩
  · cases h
/-! ### the board in the heap -/
def bf (y : Addr) (s l : Nat) (d : Addr) (n : Nat) : List (Str × V) := putF "last" (vN n) (putF "given" (.ref d) (putF "locks" (vN l) (putF "shut_ones" (vN s) (putF "yard" (.ref y) []))))
section
variable (y : Addr) (s l : Nat) (d : Addr) (n : Nat)
theorem bf_eq : bf y s l d n = ([("yard", V.ref y), ("shut_ones", vN s), ("locks", vN l), ("given", V.ref d), ("last", vN n)] : List (Str × V)) := by
  have h1 : ¬ (("yard" : Str) = "shut_ones") := by decide +kernel
  have h2 : ¬ (("yard" : Str) = "locks") := by decide +kernel
  have h3 : ¬ (("yard" : Str) = "given") := by decide +kernel
  have h4 : ¬ (("yard" : Str) = "last") := by decide +kernel
  have h5 : ¬ (("shut_ones" : Str) = "locks") := by decide +kernel
  have h6 : ¬ (("shut_ones" : Str) = "given") := by decide +kernel
  have h7 : ¬ (("shut_ones" : Str) = "last") := by decide +kernel
  have h8 : ¬ (("locks" : Str) = "given") := by decide +kernel
  have h9 : ¬ (("locks" : Str) = "last") := by decide +kernel
  have h10 : ¬ (("given" : Str) = "last") := by decide +kernel
  unfold bf
  simp only [putF, if_neg h1, if_neg h2, if_neg h3, if_neg h4, if_neg h5, if_neg h6, if_neg h7, if_neg h8, if_neg h9, if_neg h10]
theorem bf_yard : (bf y s l d n).lookup ("yard" : Str) = some (.ref y) := by
  unfold bf
  rw [lookup_putF, if_neg (by decide +kernel), lookup_putF, if_neg (by decide +kernel), lookup_putF, if_neg (by decide +kernel), lookup_putF, if_neg (by decide +kernel), lookup_putF, if_pos rfl]
theorem bf_shut : (bf y s l d n).lookup ("shut_ones" : Str) = some (vN s) := by
  unfold bf
  rw [lookup_putF, if_neg (by decide +kernel), lookup_putF, if_neg (by decide +kernel), lookup_putF, if_neg (by decide +kernel), lookup_putF, if_pos rfl]
theorem bf_locks : (bf y s l d n).lookup ("locks" : Str) = some (vN l) := by
  unfold bf
  rw [lookup_putF, if_neg (by decide +kernel), lookup_putF, if_neg (by decide +kernel), lookup_putF, if_pos rfl]
theorem bf_given : (bf y s l d n).lookup ("given" : Str) = some (.ref d) := by
  unfold bf
  rw [lookup_putF, if_neg (by decide +kernel), lookup_putF, if_pos rfl]
theorem bf_last : (bf y s l d n).lookup ("last" : Str) = some (vN n) := by
  unfold bf
  rw [lookup_putF, if_pos rfl]
theorem bf_no {m : Str} (h1 : ¬ m = "yard") (h2 : ¬ m = "shut_ones") (h3 : ¬ m = "locks") (h4 : ¬ m = "given") (h5 : ¬ m = "last") : (bf y s l d n).lookup m = none := by
  unfold bf
  rw [lookup_putF, if_neg h5, lookup_putF, if_neg h4, lookup_putF, if_neg h3, lookup_putF, if_neg h2, lookup_putF, if_neg h1]
  rfl
theorem bf_put_shut (t : Nat) : putF "shut_ones" (vN t) (bf y s l d n) = bf y t l d n := by
  have h1 : ¬ (("yard" : Str) = "shut_ones") := by decide +kernel
  rw [bf_eq, bf_eq]
  simp only [putF, if_neg h1, if_true]
theorem bf_put_locks (t : Nat) : putF "locks" (vN t) (bf y s l d n) = bf y s t d n := by
  have h1 : ¬ (("yard" : Str) = "locks") := by decide +kernel
  have h2 : ¬ (("shut_ones" : Str) = "locks") := by decide +kernel
  rw [bf_eq, bf_eq]
  simp only [putF, if_neg h1, if_neg h2, if_true]
theorem bf_put_last (t : Nat) : putF "last" (vN t) (bf y s l d n) = bf y s l d t := by
  have h1 : ¬ (("yard" : Str) = "last") := by decide +kernel
  have h2 : ¬ (("shut_ones" : Str) = "last") := by decide +kernel
  have h3 : ¬ (("locks" : Str) = "last") := by decide +kernel
  have h4 : ¬ (("given" : Str) = "last") := by decide +kernel
  rw [bf_eq, bf_eq]
  simp only [putF, if_neg h1, if_neg h2, if_neg h3, if_neg h4, if_true]
theorem bf_small : (bf y s l d n).length < 1000 := by
  rw [bf_eq]
  show 5 < 1000
  decide
end
def GvAt (H : Hp) (kv : Key × V) (q : Nat × Nat) : Prop := kv.1 = Sum.inl (q.1 : Int) ∧ ∃ (t : Addr) (pl : Nat), kv.2 = .ref t ∧ H t = some (.tup [vN pl, vN q.2])
structure BAt (K : PySem.W.Frag) (H : Hp) (b y d : Addr) (B : Bd) : Prop where
  ob : ∃ dx, H b = some (.ins (He.ga K "Board") dx (bf y B.sh B.lk d B.last))
  yd : YH H y B.Y
  dc : ∃ kvs, H d = some (.dK kvs) ∧ All2 (GvAt H) kvs B.gv
/-- kept, but for the board and its dict -/
def Kept (b d : Addr) (H H' : Hp) : Prop := ∀ a o, H a = some o → a ≠ b → a ≠ d → H' a = some o
theorem Same.kept {b d : Addr} {H H' : Hp} (s : Same H H') : Kept b d H H' := fun a o e _ _ => s a o e
theorem Kept.trans {b d : Addr} {H H1 H2 : Hp} (s : Kept b d H H1) (t : Kept b d H1 H2) : Kept b d H H2 := fun a o e h1 h2 => t a o (s a o e h1 h2) h1 h2
theorem GvAt.keep {H H' : Hp} {kv : Key × V} {q : Nat × Nat} (h : GvAt H kv q) (k : ∀ t xs, H t = some (.tup xs) → H' t = some (.tup xs)) : GvAt H' kv q := by
  obtain ⟨h1, t, pl, h2, h3⟩ := h
  exact ⟨h1, t, pl, h2, k t _ h3⟩
theorem YH.keep {H H' : Hp} {y : Addr} {Y : Yard} (h : YH H y Y) (k1 : ∀ t xs, H t = some (.tup xs) → H' t = some (.tup xs)) (k2 : ∀ t xs, H t = some (.lst xs) → H' t = some (.lst xs)) : YH H' y Y := by
  obtain ⟨l, vs, a⟩ := h
  exact ⟨l, vs, k1 _ _ a.tp, k2 _ _ a.ls, a.sw.mono fun _ _ ⟨t, e, q⟩ => ⟨t, e, k1 _ _ q⟩⟩
theorem BAt.mono {K : PySem.W.Frag} {H H' : Hp} {b y d : Addr} {B : Bd} (h : BAt K H b y d B) (s : Same H H') : BAt K H' b y d B := by
  obtain ⟨⟨dx, h1⟩, h2, kvs, h3, h4⟩ := h
  exact ⟨⟨dx, s _ _ h1⟩, h2.mono s, kvs, s _ _ h3, h4.mono fun _ _ q => q.keep fun t xs e => s t _ e⟩
/-- tuples and lists are kept where an instance and a dict alone are changed -/
theorem Kept.tup {b d : Addr} {H H' : Hp} {C dx : Addr} {fs : List (Str × V)} {kvs : List (Key × V)} (k : Kept b d H H') (hb : H b = some (.ins C dx fs)) (hd : H d = some (.dK kvs)) (t : Addr) (xs : List V) (e : H t = some (.tup xs)) : H' t = some (.tup xs) :=
  k t _ e (ne_of e hb (by intro z; cases z)) (ne_of e hd (by intro z; cases z))
theorem Kept.lst {b d : Addr} {H H' : Hp} {C dx : Addr} {fs : List (Str × V)} {kvs : List (Key × V)} (k : Kept b d H H') (hb : H b = some (.ins C dx fs)) (hd : H d = some (.dK kvs)) (t : Addr) (xs : List V) (e : H t = some (.lst xs)) : H' t = some (.lst xs) :=
  k t _ e (ne_of e hb (by intro z; cases z)) (ne_of e hd (by intro z; cases z))
/-- the board's own object is changed -/
theorem BAt.fld {K : PySem.W.Frag} {H : Hp} {b y d dx : Addr} {B : Bd} {s l n : Nat} (h : BAt K H b y d B) (hb : H b = some (.ins (He.ga K "Board") dx (bf y B.sh B.lk d B.last))) :
    BAt K (upd H b (.ins (He.ga K "Board") dx (bf y s l d n))) b y d { B with sh := s, lk := l, last := n } ∧ Kept b d H (upd H b (.ins (He.ga K "Board") dx (bf y s l d n))) := by
  obtain ⟨_, h2, kvs, h3, h4⟩ := h
  have k : Kept b d H (upd H b (.ins (He.ga K "Board") dx (bf y s l d n))) := fun a o e h1 _ => by
    rw [upd_ne h1]
    exact e
  have db : d ≠ b := ne_of h3 hb (by intro z; cases z)
  exact ⟨⟨⟨dx, upd_same⟩, h2.keep (k.tup hb h3) (k.lst hb h3), kvs, by rw [upd_ne db]; exact h3, h4.mono fun _ _ q => q.keep (k.tup hb h3)⟩, k⟩
/-! ### promises -/
def Res (K : PySem.W.Frag) (H : Hp) (b y d : Addr) (Q : VK) (E : XK) (val : Bd → V) (r : Except Str Bd) : Prop := match r with
  | .ok B' => ∀ H' : Hp, BAt K H' b y d B' → Kept b d H H' → Q (val B') H'
  | .error x => ∀ H' : Hp, Same H H' → E (.ref (He.ga K x)) none H'
def spGetB (K : PySem.W.Frag) (f : Bd → V) : Sp := fun vs H Q _ => ∃ (b y d : Addr) (B : Bd), vs = [.ref b] ∧ BAt K H b y d B ∧ Q (f B) H
def spNeed (K : PySem.W.Frag) : Sp := fun vs H Q E => ∃ (b y d : Addr) (B : Bd) (i : Nat), vs = [.ref b, vN i] ∧ BAt K H b y d B ∧ (i < B.Y.2.length → Q .non H) ∧ (¬ i < B.Y.2.length → E (.ref (He.ga K "NoSwitch")) none H)
def spOpB (K : PySem.W.Frag) (op : Bd → Nat → Except Str Bd) (val : Bd → V) : Sp := fun vs H Q E => ∃ (b y d : Addr) (B : Bd) (i : Nat), vs = [.ref b, vN i] ∧ BAt K H b y d B ∧ BOk B ∧ Res K H b y d Q E val (op B i)
/-- permit: a set of bars that there are, not so many permits yet -/
def spPermit (K : PySem.W.Frag) : Sp := fun vs H Q E => ∃ (b y d : Addr) (B : Bd) (i : Nat), vs = [.ref b, vN i] ∧ BAt K H b y d B ∧ BOk B ∧ (1 ≤ i ∧ i < 2 ^ B.Y.1 ∧ B.last ≤ 100000) ∧ Res K H b y d Q E (fun B => vN B.last) (permitB B i)
def spBoardI (K : PySem.W.Frag) : Sp := fun vs H Q _ => ∃ (b y dx : Addr) (Y : Yard), vs = [.ref b, .ref y] ∧ H b = some (.ins (He.ga K "Board") dx []) ∧ YH H y Y ∧ YOk Y ∧
  ∀ (y' d : Addr) (H' : Hp), BAt K H' b y' d ⟨Y, 0, 0, [], 0⟩ → (∀ a o, H a = some o → a ≠ b → H' a = some o) → H y' = none → H d = none → Q .non H'
end K38
namespace K38
open PySem PySem.Spec PyProof.Rows L2
/-! ### the board's dict, plain -/
theorem has_val {H : Hp} {n : Nat} : ∀ {kvs : List (Key × V)} {gv : List (Nat × Nat)}, All2 (GvAt H) kvs gv → (valV kvs (Sum.inl (n : Int) : Key)).isSome = gv.any fun q => decide (q.1 = n)
  | [], [], _ => rfl
  | kv :: kvs, q :: gv, h => by
    obtain ⟨⟨hk, _⟩, hr⟩ := h
    have ih := has_val (n := n) hr
    rw [List.any_cons]
    by_cases e : q.1 = n
    · have e2 : kv.1 = (Sum.inl (n : Int) : Key) := by rw [hk, e]
      rw [valV_pos e2, decide_eq_true e]
      rfl
    · have e2 : ¬ kv.1 = (Sum.inl (n : Int) : Key) := fun z => e (by
        rw [hk] at z
        have := Sum.inl.inj z
        omega)
      rw [valV_neg e2, ih, decide_eq_false e]
      rfl
  | [], _ :: _, h => h.elim
  | _ :: _, [], h => h.elim
theorem drop_all {H : Hp} {n : Nat} : ∀ {kvs : List (Key × V)} {gv : List (Nat × Nat)}, All2 (GvAt H) kvs gv → All2 (GvAt H) (dropK kvs (Sum.inl (n : Int) : Key)) (gv.filter fun q => decide (q.1 ≠ n))
  | [], [], _ => trivial
  | kv :: kvs, q :: gv, h => by
    obtain ⟨⟨hk, h2⟩, hr⟩ := h
    have ih := drop_all (n := n) hr
    by_cases e : q.1 = n
    · have e2 : kv.1 = (Sum.inl (n : Int) : Key) := by rw [hk, e]
      rw [dropK_pos e2, List.filter_cons, if_neg (by simp [e])]
      exact ih
    · have e2 : ¬ kv.1 = (Sum.inl (n : Int) : Key) := fun z => e (by
        rw [hk] at z
        have := Sum.inl.inj z
        omega)
      rw [dropK_neg e2, List.filter_cons, if_pos (by simp [e])]
      exact ⟨⟨hk, h2⟩, ih⟩
  | [], _ :: _, h => h.elim
  | _ :: _, [], h => h.elim
theorem no_key {gv : List (Nat × Nat)} {m : Nat} (h : ∀ q ∈ gv, q.1 ≤ m) : (gv.any fun q => decide (q.1 = m + 1)) = false := by
  cases e : gv.any fun q => decide (q.1 = m + 1) with
  | false => rfl
  | true =>
    obtain ⟨q, hq, z⟩ := List.any_eq_true.mp e
    have := h q hq
    have := of_decide_eq_true z
    omega
theorem fold_take {α β : Type} (f : β → α → β) (l : List α) (b : β) {i : Nat} {x : α} (h : l[i]? = some x) : (l.take (i + 1)).foldl f b = f ((l.take i).foldl f b) x := by
  rw [take_more h, List.foldl_append]
  rfl
section
variable {P : Program} {w : World} {K : PySem.W.Frag} {mg : Str → Option Value} {base : Heap}

end
theorem length_put2 {a b : V} : (putF "shut_ones" a (putF "yard" b [])).length = 2 := by
  have h1 : ¬ (("yard" : Str) = "shut_ones") := by decide +kernel
  simp only [putF, if_neg h1, List.length_cons, List.length_nil]
theorem length_put3 {a b c : V} : (putF "locks" c (putF "shut_ones" a (putF "yard" b []))).length = 3 := by
  have h1 : ¬ (("yard" : Str) = "shut_ones") := by decide +kernel
  have h2 : ¬ (("yard" : Str) = "locks") := by decide +kernel
  have h3 : ¬ (("shut_ones" : Str) = "locks") := by decide +kernel
  simp only [putF, if_neg h1, if_neg h2, if_neg h3, List.length_cons, List.length_nil]
theorem length_put4 {a b c e : V} : (putF "given" e (putF "locks" c (putF "shut_ones" a (putF "yard" b [])))).length = 4 := by
  have h1 : ¬ (("yard" : Str) = "shut_ones") := by decide +kernel
  have h2 : ¬ (("yard" : Str) = "locks") := by decide +kernel
  have h3 : ¬ (("shut_ones" : Str) = "locks") := by decide +kernel
  have h4 : ¬ (("yard" : Str) = "given") := by decide +kernel
  have h5 : ¬ (("shut_ones" : Str) = "given") := by decide +kernel
  have h6 : ¬ (("locks" : Str) = "given") := by decide +kernel
  simp only [putF, if_neg h1, if_neg h2, if_neg h3, if_neg h4, if_neg h5, if_neg h6, List.length_cons, List.length_nil]
section
variable {P : Program} {w : World} {K : PySem.W.Frag} {mg : Str → Option Value} {base : Heap}

theorem gm_standing (c : Ct K mg) : Gm P w K mg base 1 "Board" "standing" (spGetB K fun B => vN B.sh) := by
  refine gm_of (d := dBoard_standing) (N := ["self"]) (ps := ["self"]) (k := 0) c 55 rfl rfl rfl rfl ⟨rfl, rfl, rfl, by decide +kernel, rfl, by decide +kernel, by decide +kernel⟩ (fun _ _ _ _ _ _ us hl => match us, hl with | [_], _ => rfl) (fun vs H Q E h => ?_) (fun cdv A outer s H vs Q E hr h => ?_)
  · obtain ⟨b, y, d, B, rfl, _⟩ := h
    rfl
  · obtain ⟨b, y, d, B, rfl, hB, hq⟩ := h
    have cB := c.cls "Board"
    have n_yard := c.noat "Board" "yard"
    have n_shut_ones := c.noat "Board" "shut_ones"
    have n_locks := c.noat "Board" "locks"
    have n_given := c.noat "Board" "given"
    have n_last := c.noat "Board" "last"
    obtain ⟨dx, hb⟩ := hB.ob
    refine ⟨_, PSs.nox (pss_one (ps_ret (pe_fld (pv 0) rfl))), ?_⟩
    exact ⟨_, rfl, b, _, dx, _, _, rfl, hb, cB, n_shut_ones, bf_shut _ _ _ _ _, hq⟩

theorem gm_locked (c : Ct K mg) : Gm P w K mg base 1 "Board" "locked" (spGetB K fun B => vN B.lk) := by
  refine gm_of (d := dBoard_locked) (N := ["self"]) (ps := ["self"]) (k := 0) c 56 rfl rfl rfl rfl ⟨rfl, rfl, rfl, by decide +kernel, rfl, by decide +kernel, by decide +kernel⟩ (fun _ _ _ _ _ _ us hl => match us, hl with | [_], _ => rfl) (fun vs H Q E h => ?_) (fun cdv A outer s H vs Q E hr h => ?_)
  · obtain ⟨b, y, d, B, rfl, _⟩ := h
    rfl
  · obtain ⟨b, y, d, B, rfl, hB, hq⟩ := h
    have cB := c.cls "Board"
    have n_yard := c.noat "Board" "yard"
    have n_shut_ones := c.noat "Board" "shut_ones"
    have n_locks := c.noat "Board" "locks"
    have n_given := c.noat "Board" "given"
    have n_last := c.noat "Board" "last"
    obtain ⟨dx, hb⟩ := hB.ob
    refine ⟨_, PSs.nox (pss_one (ps_ret (pe_fld (pv 0) rfl))), ?_⟩
    exact ⟨_, rfl, b, _, dx, _, _, rfl, hb, cB, n_locks, bf_locks _ _ _ _ _, hq⟩

theorem gm_held (c : Ct K mg) : Gm P w K mg base 1 "Board" "held" (spGetB K fun B => vN (heldN B)) := by
  have nd : (["self", "found", "place", "some"] : List Str).Nodup := by decide +kernel
  refine gm_of (d := dBoard_held) (N := ["self", "found", "place", "some"]) (ps := ["self"]) (k := 0) c 57 rfl rfl rfl rfl ⟨rfl, rfl, rfl, nd, rfl, by decide +kernel, by decide +kernel⟩ (fun _ _ _ _ _ _ us hl => match us, hl with | [_], _ => rfl) (fun vs H Q E h => ?_) (fun cdv A outer s H vs Q E hr h => ?_)
  · obtain ⟨b, y, d, B, rfl, _⟩ := h
    rfl
  · obtain ⟨b, y, d, B, rfl, hB, hq⟩ := h
    have cB := c.cls "Board"
    have n_yard := c.noat "Board" "yard"
    have n_shut_ones := c.noat "Board" "shut_ones"
    have n_locks := c.noat "Board" "locks"
    have n_given := c.noat "Board" "given"
    have n_last := c.noat "Board" "last"
    obtain ⟨dx, hb⟩ := hB.ob
    obtain ⟨kvs, hd, hg⟩ := hB.dc
    refine ⟨_, PSs.nox (pss_cons (ps_set (i := 1) nd rfl (Or.inl rfl) pe_int)
      (pss_cons (ps_lock (ps_for PassesOwn.never rfl (pi_values (pe_fld (pv 0) rfl)) (pg_tup rfl (pgs_cons (pg_name (i := 2) nd rfl (Or.inl rfl)) (pgs_cons (pg_name (i := 3) nd rfl (Or.inl rfl)) pgs_nil)))
        (pss_one (ps_set (i := 1) nd rfl (Or.inl rfl) (pe_op opn_or (pv 1) (pv 3))))))
      (pss_one (ps_ret (pv 1))))), ?_⟩
    refine ⟨d, _, hd, trivial, fun od => ?_⟩
    have bd : b ≠ d := ne_of hb hd (by intro z; cases z)
    have hb2 : upd H d (.frz od (.dK kvs)) b = some (.ins (He.ga K "Board") dx (bf y B.sh B.lk d B.last)) := by
      rw [upd_ne bd]
      exact hb
    have hlen := hg.len
    refine ⟨_, rfl, b, _, dx, _, _, rfl, hb2, cB, n_given, bf_given _ _ _ _ _, d, od, kvs, rfl, upd_same, ?_⟩
    refine for_it (walk_values (d := d) (o := od) (kvs := kvs)) (fun i σ H2 => ∃ v2 v3 : Option V, σ = [some (.ref b), some (vN ((B.gv.take i).foldl (fun a q => a ||| q.2) 0)), v2, v3] ∧ H2 = upd H d (.frz od (.dK kvs))) ⟨none, none, rfl, rfl⟩ (fun i σ H2 _ ⟨_, _, _, e⟩ => by rw [e]; exact upd_same) ?_ ?_
    · rintro i x σ H2 H3 hi ⟨v2, v3, rfl, rfl⟩ ⟨rfl, k, hk⟩
      obtain ⟨q, hq2, _, t, pl, e, ht⟩ := hg.get hk
      have ex : x = .ref t := e
      subst ex
      have ht2 : upd H d (.frz od (.dK kvs)) t = some (.tup [vN pl, vN q.2]) := by
        rw [upd_ne (ne_of ht hd (by intro z; cases z))]
        exact ht
      refine ⟨t, _, rfl, SqT.of ht2, rfl, _, _, rfl, _, _, rfl, rfl, ?_⟩
      refine ⟨_, rfl, _, rfl, _, _, rfl, rfl, ?_⟩
      exact ⟨_, _, by rw [fold_take (fun (a : Nat) (q : Nat × Nat) => a ||| q.2) B.gv 0 hq2]; rfl, rfl⟩
    · rintro σ H2 ⟨v2, v3, rfl, rfl⟩
      refine ⟨upd_same, _, rfl, ?_⟩
      rw [hlen, List.take_length, upd_upd]
      have e : upd H d (.dK kvs) = H := by
        funext a
        by_cases z : a = d
        · rw [z, upd_same, hd]
        · rw [upd_ne z]
      rw [e]
      exact hq

theorem gm_need (c : Ct K mg) : Gm P w K mg base 1 "Board" "need" (spNeed K) := by
  refine gm_of (d := dBoard_need) (N := ["self", "number"]) (ps := ["self", "number"]) (k := 0) c 58 rfl rfl rfl rfl ⟨rfl, rfl, rfl, by decide +kernel, rfl, by decide +kernel, by decide +kernel⟩ (fun _ _ _ _ _ _ us hl => match us, hl with | [_, _], _ => rfl) (fun vs H Q E h => ?_) (fun cdv A outer s H vs Q E hr h => ?_)
  · obtain ⟨b, y, d, B, i, rfl, _⟩ := h
    rfl
  · obtain ⟨b, y, d, B, i, rfl, hB, hq1, hq2⟩ := h
    have cB := c.cls "Board"
    have n_yard := c.noat "Board" "yard"
    have n_shut_ones := c.noat "Board" "shut_ones"
    have n_locks := c.noat "Board" "locks"
    have n_given := c.noat "Board" "given"
    have n_last := c.noat "Board" "last"
    obtain ⟨dx, hb⟩ := hB.ob
    obtain ⟨l, us, hA⟩ := hB.yd
    have hlen := hA.sw.len
    refine ⟨_, pss_one (ps_if (PW.pt (pw_or (pt_cmpR op_lt (pv 1) pe_int (nomark _)) (pw_or1 (pt_cmpR op_ge (pv 1) (pe_callB call_len_seq (by rfl) (c.free "len") PySem.boot_len (pa_cons (pe_ix ix_tup (pe_fld (pv 0) rfl) pe_int (fun _ _ => rfl)) pa_nil)) (nomark _))))) (pss_one (ps_rs c (takes_of rfl rfl rfl rfl))) pss_nil), ?_⟩
    refine ⟨_, rfl, _, _, rfl, rfl, _, rfl, ifF (decide_eq_false (by omega)) ?_⟩
    refine ⟨_, rfl, _, rfl, b, _, dx, _, _, rfl, hb, cB, n_yard, bf_yard _ _ _ _ _, _, _, 1, _, rfl, rfl, SqT.of hA.tp, rfl, l, us, rfl, .inl (SqL.of hA.ls), _, _, rfl, rfl, _, rfl, ifb (fun hb2 => ?_) (fun hb2 => ?_)⟩
    · have := of_decide_eq_true hb2
      exact hq2 (by omega)
    · have := of_decide_eq_false hb2
      exact hq1 (by omega)

theorem gm_turn (c : Ct K mg) : Gm P w K mg base 10 "Board" "turn" (spOpB K turnB fun B => vN B.sh) := by
  refine gm_of (d := dBoard_turn) (N := ["self", "number"]) (ps := ["self", "number"]) (k := 9) c 59 rfl rfl rfl rfl ⟨rfl, rfl, rfl, by decide +kernel, rfl, by decide +kernel, by decide +kernel⟩ (fun _ _ _ _ _ _ us hl => match us, hl with | [_, _], _ => rfl) (fun vs H Q E h => ?_) (fun cdv A outer s H vs Q E hr h => ?_)
  · obtain ⟨b, y, d, B, i, rfl, _⟩ := h
    rfl
  · obtain ⟨b, y, d, B, i, rfl, hB, hok, hq⟩ := h
    have cB := c.cls "Board"
    have n_yard := c.noat "Board" "yard"
    have n_shut_ones := c.noat "Board" "shut_ones"
    have n_locks := c.noat "Board" "locks"
    have n_given := c.noat "Board" "given"
    have n_last := c.noat "Board" "last"
    refine ⟨_, pss_cons (ps_expr (pe_gm (gm_need c) hr passE (pv 0) (pa_cons (pv 1) pa_nil)))
      (pss_cons (ps_if (pt_bit (pe_fld (pv 0) rfl) (pv 1)) (pss_one (ps_rs c (takes_of rfl rfl rfl rfl))) pss_nil)
      (pss_cons (ps_if (pt_bit (pe_gm0 (gm_held c) hr passL (pv 0)) (pv 1)) (pss_one (ps_rs c (takes_of rfl rfl rfl rfl))) pss_nil)
      (pss_cons (ps_fld (pv 0) (pe_g (go_turned c) hr passE (pa_cons (pe_fld (pv 0) rfl) (pa_cons (pe_fld (pv 0) rfl) (pa_cons (pv 1) pa_nil)))) rfl)
      (pss_one (ps_ret (pe_fld (pv 0) rfl)))))), ?_⟩
    obtain ⟨dx, hb⟩ := id hB.ob
    have nope : ¬ i < B.Y.2.length → E (.ref (He.ga K "NoSwitch")) none H := fun hi => by
      have e0 : B.Y.2[i]? = none := List.getElem?_eq_none (by omega)
      unfold turnB at hq
      rw [e0] at hq
      exact hq H (Same.refl H)
    refine ⟨_, rfl, b, dx, _, rfl, hb, (bf_no _ _ _ _ _ (by decide +kernel) (by decide +kernel) (by decide +kernel) (by decide +kernel) (by decide +kernel)), _, rfl, b, y, d, B, i, rfl, hB, fun hi => ?_, nope⟩
    obtain ⟨sw, hsw⟩ : ∃ sw, B.Y.2[i]? = some sw := ⟨_, List.getElem?_eq_getElem hi⟩
    have hi12 := ix_lt hok.y hsw
    unfold turnB at hq
    rw [hsw] at hq
    dsimp only at hq
    refine ⟨_, rfl, b, _, dx, _, _, rfl, hb, cB, n_locks, bf_locks _ _ _ _ _, _, rfl, B.lk, i, rfl, rfl, _, rfl, ifb (fun h1 => ?_) (fun h1 => ?_)⟩
    · rw [h1, if_pos rfl] at hq
      exact hq H (Same.refl H)
    rw [h1, if_neg Bool.false_ne_true] at hq
    refine ⟨_, rfl, b, dx, _, rfl, hb, (bf_no _ _ _ _ _ (by decide +kernel) (by decide +kernel) (by decide +kernel) (by decide +kernel) (by decide +kernel)), b, y, d, B, rfl, hB, _, rfl, heldN B, i, rfl, rfl, _, rfl, ifb (fun h2 => ?_) (fun h2 => ?_)⟩
    · rw [h2, if_pos rfl] at hq
      exact hq H (Same.refl H)
    rw [h2, if_neg Bool.false_ne_true] at hq
    refine ⟨_, rfl, b, _, dx, _, _, rfl, hb, cB, n_yard, bf_yard _ _ _ _ _, _, rfl, b, _, dx, _, _, rfl, hb, cB, n_shut_ones, bf_shut _ _ _ _ _, _, rfl, y, B.Y, B.sh, i, rfl, hB.yd, hok.y, hi, ?_⟩
    cases ht : turnN B.Y B.sh i with
    | error x =>
      rw [ht] at hq
      exact fun H1 s1 => hq H1 s1
    | ok t =>
      rw [ht] at hq
      intro H1 s1
      have hb1 := s1 _ _ hb
      refine ⟨_, rfl, b, _, dx, _, rfl, hb1, cB, n_shut_ones, bf_small _ _ _ _ _, ?_⟩
      rw [bf_put_shut]
      obtain ⟨hB2, k2⟩ := (hB.mono s1).fld (s := t) (l := B.lk) (n := B.last) hb1
      exact ⟨_, rfl, b, _, dx, _, _, rfl, upd_same, cB, n_shut_ones, bf_shut _ _ _ _ _, hq _ hB2 ((Same.kept s1).trans k2)⟩

theorem gm_lock (c : Ct K mg) : Gm P w K mg base 10 "Board" "lock" (spOpB K lockB fun B => vN B.lk) := by
  refine gm_of (d := dBoard_lock) (N := ["self", "number"]) (ps := ["self", "number"]) (k := 9) c 60 rfl rfl rfl rfl ⟨rfl, rfl, rfl, by decide +kernel, rfl, by decide +kernel, by decide +kernel⟩ (fun _ _ _ _ _ _ us hl => match us, hl with | [_, _], _ => rfl) (fun vs H Q E h => ?_) (fun cdv A outer s H vs Q E hr h => ?_)
  · obtain ⟨b, y, d, B, i, rfl, _⟩ := h
    rfl
  · obtain ⟨b, y, d, B, i, rfl, hB, hok, hq⟩ := h
    have cB := c.cls "Board"
    have n_yard := c.noat "Board" "yard"
    have n_shut_ones := c.noat "Board" "shut_ones"
    have n_locks := c.noat "Board" "locks"
    have n_given := c.noat "Board" "given"
    have n_last := c.noat "Board" "last"
    refine ⟨_, pss_cons (ps_expr (pe_gm (gm_need c) hr passE (pv 0) (pa_cons (pv 1) pa_nil)))
      (pss_cons (ps_if (pt_not (pt_val (pe_g (go_can c) hr passL (pa_cons (pe_ix ix_list (pe_ix ix_tup (pe_fld (pv 0) rfl) pe_int (fun _ _ => rfl)) (pv 1) (fun _ _ => rfl)) pa_nil)))) (pss_one (ps_rs c (takes_of rfl rfl rfl rfl))) pss_nil)
      (pss_cons (ps_if (pt_bit (pe_fld (pv 0) rfl) (pv 1)) (pss_one (ps_rs c (takes_of rfl rfl rfl rfl))) pss_nil)
      (pss_cons (ps_if (pt_bit (pe_fld (pv 0) rfl) (pv 1)) (pss_one (ps_rs c (takes_of rfl rfl rfl rfl))) pss_nil)
      (pss_cons (ps_fld (pv 0) (pe_op opn_or (pe_fld (pv 0) rfl) (pe_op opn_one pe_int (pv 1))) rfl)
      (pss_one (ps_ret (pe_fld (pv 0) rfl))))))), ?_⟩
    obtain ⟨dx, hb⟩ := id hB.ob
    have nope : ¬ i < B.Y.2.length → E (.ref (He.ga K "NoSwitch")) none H := fun hi => by
      have e0 : B.Y.2[i]? = none := List.getElem?_eq_none (by omega)
      unfold lockB at hq
      rw [e0] at hq
      exact hq H (Same.refl H)
    refine ⟨_, rfl, b, dx, _, rfl, hb, (bf_no _ _ _ _ _ (by decide +kernel) (by decide +kernel) (by decide +kernel) (by decide +kernel) (by decide +kernel)), _, rfl, b, y, d, B, i, rfl, hB, fun hi => ?_, nope⟩
    obtain ⟨sw, hsw⟩ : ∃ sw, B.Y.2[i]? = some sw := ⟨_, List.getElem?_eq_getElem hi⟩
    have hi12 := ix_lt hok.y hsw
    unfold lockB at hq
    rw [hsw] at hq
    dsimp only at hq
    obtain ⟨l, us, hA⟩ := id hB.yd
    obtain ⟨v, hv, t, rfl, ht⟩ := hA.sw.get' hsw
    refine ⟨_, rfl, b, _, dx, _, _, rfl, hb, cB, n_yard, bf_yard _ _ _ _ _, y, _, 1, _, rfl, rfl, SqT.of hA.tp, rfl, _, rfl, l, _, (i : Int), _, rfl, rfl, SqL.of hA.ls, atI_nat hv, t, sw, rfl, ht, hok.y.big hsw, fun H1 s1 => ⟨_, rfl, ?_⟩⟩
    have hB1 := hB.mono s1
    have hb1 := s1 _ _ hb
    cases h0 : canN sw with
    | false =>
      rw [h0, if_pos rfl] at hq
      exact iteT (hq H1 s1)
    | true =>
      rw [h0, if_neg (by decide)] at hq
      refine iteF ⟨_, rfl, b, _, dx, _, _, rfl, hb1, cB, n_shut_ones, bf_shut _ _ _ _ _, _, rfl, B.sh, i, rfl, rfl, _, rfl, ifb (fun h1 => ?_) (fun h1 => ?_)⟩
      · rw [h1, if_pos rfl] at hq
        exact hq H1 s1
      rw [h1, if_neg Bool.false_ne_true] at hq
      refine ⟨_, rfl, b, _, dx, _, _, rfl, hb1, cB, n_locks, bf_locks _ _ _ _ _, _, rfl, B.lk, i, rfl, rfl, _, rfl, ifb (fun h2 => ?_) (fun h2 => ?_)⟩
      · rw [h2, if_pos rfl] at hq
        exact hq H1 s1
      rw [h2, if_neg Bool.false_ne_true] at hq
      refine ⟨_, rfl, b, _, dx, _, _, rfl, hb1, cB, n_locks, bf_locks _ _ _ _ _, _, rfl, i, rfl, rfl, by omega, B.lk, 2 ^ i, rfl, rfl, _, rfl, b, _, dx, _, rfl, hb1, cB, n_locks, bf_small _ _ _ _ _, ?_⟩
      rw [bf_put_locks]
      obtain ⟨hB2, k2⟩ := hB1.fld (s := B.sh) (l := B.lk ||| 2 ^ i) (n := B.last) hb1
      exact ⟨_, rfl, b, _, dx, _, _, rfl, upd_same, cB, n_locks, bf_locks _ _ _ _ _, hq _ hB2 ((Same.kept s1).trans k2)⟩

theorem gm_unlock (c : Ct K mg) : Gm P w K mg base 10 "Board" "unlock" (spOpB K unlockB fun B => vN B.lk) := by
  refine gm_of (d := dBoard_unlock) (N := ["self", "number"]) (ps := ["self", "number"]) (k := 9) c 61 rfl rfl rfl rfl ⟨rfl, rfl, rfl, by decide +kernel, rfl, by decide +kernel, by decide +kernel⟩ (fun _ _ _ _ _ _ us hl => match us, hl with | [_, _], _ => rfl) (fun vs H Q E h => ?_) (fun cdv A outer s H vs Q E hr h => ?_)
  · obtain ⟨b, y, d, B, i, rfl, _⟩ := h
    rfl
  · obtain ⟨b, y, d, B, i, rfl, hB, hok, hq⟩ := h
    have cB := c.cls "Board"
    have n_yard := c.noat "Board" "yard"
    have n_shut_ones := c.noat "Board" "shut_ones"
    have n_locks := c.noat "Board" "locks"
    have n_given := c.noat "Board" "given"
    have n_last := c.noat "Board" "last"
    refine ⟨_, pss_cons (ps_expr (pe_gm (gm_need c) hr passE (pv 0) (pa_cons (pv 1) pa_nil)))
      (pss_cons (ps_if (pt_bit0 (pe_fld (pv 0) rfl) (pv 1)) (pss_one (ps_rs c (takes_of rfl rfl rfl rfl))) pss_nil)
      (pss_cons (ps_if (pt_bit (pe_gm0 (gm_held c) hr passL (pv 0)) (pv 1)) (pss_one (ps_rs c (takes_of rfl rfl rfl rfl))) pss_nil)
      (pss_cons (ps_fld (pv 0) (pe_op opn_xor (pe_fld (pv 0) rfl) (pe_op opn_one pe_int (pv 1))) rfl)
      (pss_one (ps_ret (pe_fld (pv 0) rfl)))))), ?_⟩
    obtain ⟨dx, hb⟩ := id hB.ob
    have nope : ¬ i < B.Y.2.length → E (.ref (He.ga K "NoSwitch")) none H := fun hi => by
      have e0 : B.Y.2[i]? = none := List.getElem?_eq_none (by omega)
      unfold unlockB at hq
      rw [e0] at hq
      exact hq H (Same.refl H)
    refine ⟨_, rfl, b, dx, _, rfl, hb, (bf_no _ _ _ _ _ (by decide +kernel) (by decide +kernel) (by decide +kernel) (by decide +kernel) (by decide +kernel)), _, rfl, b, y, d, B, i, rfl, hB, fun hi => ?_, nope⟩
    obtain ⟨sw, hsw⟩ : ∃ sw, B.Y.2[i]? = some sw := ⟨_, List.getElem?_eq_getElem hi⟩
    have hi12 := ix_lt hok.y hsw
    unfold unlockB at hq
    rw [hsw] at hq
    dsimp only at hq
    refine ⟨_, rfl, b, _, dx, _, _, rfl, hb, cB, n_locks, bf_locks _ _ _ _ _, _, rfl, B.lk, i, rfl, rfl, _, rfl, ?_⟩
    cases h1 : B.lk.testBit i with
    | false =>
      rw [h1, if_pos rfl] at hq
      exact iteT (hq H (Same.refl H))
    | true =>
      rw [h1, if_neg (by decide)] at hq
      refine iteF ⟨_, rfl, b, dx, _, rfl, hb, (bf_no _ _ _ _ _ (by decide +kernel) (by decide +kernel) (by decide +kernel) (by decide +kernel) (by decide +kernel)), b, y, d, B, rfl, hB, _, rfl, heldN B, i, rfl, rfl, _, rfl, ifb (fun h2 => ?_) (fun h2 => ?_)⟩
      · rw [h2, if_pos rfl] at hq
        exact hq H (Same.refl H)
      rw [h2, if_neg Bool.false_ne_true] at hq
      refine ⟨_, rfl, b, _, dx, _, _, rfl, hb, cB, n_locks, bf_locks _ _ _ _ _, _, rfl, i, rfl, rfl, by omega, B.lk, 2 ^ i, rfl, rfl, _, rfl, b, _, dx, _, rfl, hb, cB, n_locks, bf_small _ _ _ _ _, ?_⟩
      rw [bf_put_locks]
      obtain ⟨hB2, k2⟩ := hB.fld (s := B.sh) (l := togN B.lk (2 ^ i)) (n := B.last) hb
      exact ⟨_, rfl, b, _, dx, _, _, rfl, upd_same, cB, n_locks, bf_locks _ _ _ _ _, hq _ hB2 k2⟩

theorem gm_back (c : Ct K mg) : Gm P w K mg base 10 "Board" "give_back" (spOpB K backB fun B => vN (heldN B)) := by
  refine gm_of (d := dBoard_give_back) (N := ["self", "number"]) (ps := ["self", "number"]) (k := 9) c 63 rfl rfl rfl rfl ⟨rfl, rfl, rfl, by decide +kernel, rfl, by decide +kernel, by decide +kernel⟩ (fun _ _ _ _ _ _ us hl => match us, hl with | [_, _], _ => rfl) (fun vs H Q E h => ?_) (fun cdv A outer s H vs Q E hr h => ?_)
  · obtain ⟨b, y, d, B, i, rfl, _⟩ := h
    rfl
  · obtain ⟨b, y, d, B, i, rfl, hB, hok, hq⟩ := h
    have cB := c.cls "Board"
    have n_yard := c.noat "Board" "yard"
    have n_shut_ones := c.noat "Board" "shut_ones"
    have n_locks := c.noat "Board" "locks"
    have n_given := c.noat "Board" "given"
    have n_last := c.noat "Board" "last"
    have hu := hu_of hr
    obtain ⟨dx, hb⟩ := id hB.ob
    obtain ⟨kvs, hd, hg⟩ := id hB.dc
    refine ⟨_, pss_cons (ps_if (pt_cmp (pc_dnotin hu (pv 1) (pe_fld (pv 0) rfl))) (pss_one (ps_rs c (takes_of rfl rfl rfl rfl))) pss_nil)
      (pss_cons (ps_expr (pe_dpop1 (pe_fld (pv 0) rfl) (pv 1) ⟨rfl, rfl, rfl, rfl⟩))
      (pss_one (ps_ret (pe_gm0 (gm_held c) hr passL (pv 0))))), ?_⟩
    refine ⟨_, rfl, _, rfl, b, _, dx, _, _, rfl, hb, cB, n_given, bf_given _ _ _ _ _, d, _, rfl, DGet.k (k := Sum.inl (i : Int)) hd, _, rfl, ?_⟩
    have hh : (valV kvs (Sum.inl (i : Int) : Key)).isSome = hasB B i := has_val hg
    rw [hh]
    unfold backB at hq
    cases h0 : hasB B i with
    | false =>
      rw [h0, if_neg Bool.false_ne_true] at hq
      exact iteT (hq H (Same.refl H))
    | true =>
      rw [h0, if_pos rfl] at hq
      refine iteF ?_
      rw [h0] at hh
      obtain ⟨v, hv⟩ := Option.isSome_iff_exists.mp hh
      refine ⟨_, rfl, b, _, dx, _, _, rfl, hb, cB, n_given, bf_given _ _ _ _ _, d, rfl, .inl ⟨kvs, .inl hd⟩, _, rfl, kvs, Sum.inl (i : Int), v, hd, rfl, hv, ?_⟩
      have bd : b ≠ d := ne_of hb hd (by intro z; cases z)
      have k : Kept b d H (upd H d (.dK (dropK kvs (Sum.inl (i : Int))))) := fun a o e _ h2 => by
        rw [upd_ne h2]
        exact e
      have hb1 : upd H d (.dK (dropK kvs (Sum.inl (i : Int)))) b = some (.ins (He.ga K "Board") dx (bf y B.sh B.lk d B.last)) := by
        rw [upd_ne bd]
        exact hb
      have hB1 : BAt K (upd H d (.dK (dropK kvs (Sum.inl (i : Int))))) b y d (dropB B i) := ⟨⟨dx, hb1⟩, hB.yd.keep (k.tup hb hd) (k.lst hb hd), _, upd_same, (drop_all hg).mono fun _ _ q => q.keep (k.tup hb hd)⟩
      exact ⟨_, rfl, b, dx, _, rfl, hb1, (bf_no _ _ _ _ _ (by decide +kernel) (by decide +kernel) (by decide +kernel) (by decide +kernel) (by decide +kernel)), b, y, d, _, rfl, hB1, hq _ hB1 k⟩

theorem gm_permit (c : Ct K mg) : Gm P w K mg base 10 "Board" "permit" (spPermit K) := by
  have nd : (["self", "place", "earths", "bars"] : List Str).Nodup := by decide +kernel
  refine gm_of (d := dBoard_permit) (N := ["self", "place", "earths", "bars"]) (ps := ["self", "place"]) (k := 9) c 62 rfl rfl rfl rfl ⟨rfl, rfl, rfl, nd, rfl, by decide +kernel, by decide +kernel⟩ (fun _ _ _ _ _ _ us hl => match us, hl with | [_, _], _ => rfl) (fun vs H Q E h => ?_) (fun cdv A outer s H vs Q E hr h => ?_)
  · obtain ⟨b, y, d, B, i, rfl, _⟩ := h
    rfl
  · obtain ⟨b, y, d, B, i, rfl, hB, hok, ⟨hi1, hi2, hi3⟩, hq⟩ := h
    have cB := c.cls "Board"
    have n_yard := c.noat "Board" "yard"
    have n_shut_ones := c.noat "Board" "shut_ones"
    have n_locks := c.noat "Board" "locks"
    have n_given := c.noat "Board" "given"
    have n_last := c.noat "Board" "last"
    have hu := hu_of hr
    obtain ⟨dx, hb⟩ := id hB.ob
    obtain ⟨l, us, hA⟩ := id hB.yd
    refine ⟨_, pss_cons (ps_if (PW.pt (pw_or (pt_cmpR op_lt (pv 1) pe_int (nomark _)) (pw_or1 (pt_cmpR op_ne (pe_op opn_shr (pv 1) (pe_ix ix_tup (pe_fld (pv 0) rfl) pe_int (fun _ _ => rfl))) pe_int (nomark _))))) (pss_one (ps_rs c (takes_of rfl rfl rfl rfl))) pss_nil)
      (pss_cons (ps_asg (pe_g (go_own c) hr passL (pa_cons (pe_fld (pv 0) rfl) (pa_cons (pe_fld (pv 0) rfl) (pa_cons (pv 1) pa_nil)))) (pg_tup rfl (pgs_cons (pg_name (i := 2) nd rfl (Or.inl rfl)) (pgs_cons (pg_name (i := 3) nd rfl (Or.inl rfl)) pgs_nil))))
      (pss_cons (ps_if (pt_cmpR op_ne (pv 3) (pv 1) (nomark _)) (pss_one (ps_rs c (takes_of rfl rfl rfl rfl))) pss_nil)
      (pss_cons (ps_if (pt_not (pt_val (pe_g (go_keeps c) hr passL (pa_cons (pe_fld (pv 0) rfl) (pa_cons (pv 1) (pa_cons (pe_fld (pv 0) rfl) pa_nil)))))) (pss_one (ps_rs c (takes_of rfl rfl rfl rfl))) pss_nil)
      (pss_cons (ps_fld (pv 0) (pe_op op_addN (pe_fld (pv 0) rfl) pe_int) rfl)
      (pss_cons (ps_dput hu (pe_fld (pv 0) rfl) (pe_fld (pv 0) rfl) (pe_tup (pa_cons (pv 1) (pa_cons (pe_op opn_or (pv 2) (pe_fld (pv 0) rfl)) pa_nil))) rfl)
      (pss_one (ps_ret (pe_fld (pv 0) rfl)))))))), ?_⟩
    refine ⟨_, rfl, _, _, rfl, rfl, _, rfl, ifF (decide_eq_false (by omega)) ?_⟩
    refine ⟨_, rfl, _, rfl, b, _, dx, _, _, rfl, hb, cB, n_yard, bf_yard _ _ _ _ _, y, _, 0, _, rfl, rfl, SqT.of hA.tp, rfl, i, B.Y.1, rfl, rfl, rfl, _, rfl, ifnd_f (by rw [Nat.div_eq_of_lt hi2]; rfl) ?_⟩
    refine ⟨_, rfl, b, _, dx, _, _, rfl, hb, cB, n_yard, bf_yard _ _ _ _ _, _, rfl, b, _, dx, _, _, rfl, hb, cB, n_shut_ones, bf_shut _ _ _ _ _, _, rfl, y, B.Y, B.sh, i, rfl, hB.yd, hok.y, fun t H1 s1 nt ht => ?_⟩
    refine ⟨t, _, rfl, SqT.of ht, rfl, _, _, rfl, _, _, rfl, rfl, ?_⟩
    refine ⟨_, rfl, _, rfl, rfl, _, rfl, ?_⟩
    unfold permitB at hq
    by_cases h0 : (ownOf B.Y B.sh i).2 = i
    · rw [if_pos h0] at hq
      refine ifnd_f (by rw [h0]) ?_
      have hb1 := s1 _ _ hb
      have hB1 := hB.mono s1
      refine ⟨_, rfl, b, _, dx, _, _, rfl, hb1, cB, n_yard, bf_yard _ _ _ _ _, _, rfl, _, rfl, b, _, dx, _, _, rfl, hb1, cB, n_locks, bf_locks _ _ _ _ _, y, B.Y, i, B.lk, rfl, hB1.yd, hok.y, fun H2 s2 => ⟨_, rfl, ?_⟩⟩
      cases h1 : keepsN B.Y i B.lk with
      | false =>
        rw [h1, if_neg Bool.false_ne_true] at hq
        exact iteT (hq H2 (s1.trans s2))
      | true =>
        rw [h1, if_pos rfl] at hq
        have hb2 := s2 _ _ hb1
        have hB2 := hB1.mono s2
        refine iteF ⟨_, rfl, b, _, dx, _, _, rfl, hb2, cB, n_last, bf_last _ _ _ _ _, B.last, 1, rfl, rfl, _, rfl, b, _, dx, _, rfl, hb2, cB, n_last, bf_small _ _ _ _ _, ?_⟩
        rw [bf_put_last]
        obtain ⟨hB3, k3⟩ := hB2.fld (s := B.sh) (l := B.lk) (n := B.last + 1) hb2
        have hb3 : upd H2 b (.ins (He.ga K "Board") dx (bf y B.sh B.lk d (B.last + 1))) b = some (.ins (He.ga K "Board") dx (bf y B.sh B.lk d (B.last + 1))) := upd_same
        refine ⟨_, rfl, _, rfl, _, rfl, b, _, dx, _, _, rfl, hb3, cB, n_locks, bf_locks _ _ _ _ _, _, _, rfl, rfl, (by show 2 ≤ sizeLine; decide), fun q nq => ?_⟩
        have hb4 : upd (upd H2 b (.ins (He.ga K "Board") dx (bf y B.sh B.lk d (B.last + 1)))) q (.tup [vN i, vN ((ownOf B.Y B.sh i).1 ||| B.lk)]) b = some (.ins (He.ga K "Board") dx (bf y B.sh B.lk d (B.last + 1))) := by
          rw [upd_ne (ne_of_none hb3 nq)]
          exact hb3
        have s4 := same_new (o := .tup [vN i, vN ((ownOf B.Y B.sh i).1 ||| B.lk)]) nq
        have hB4 := hB3.mono s4
        obtain ⟨kvs, hd4, hg4⟩ := hB4.dc
        have hdl : kvs.length < sizeLine := by
          rw [hg4.len]
          exact Nat.lt_of_le_of_lt (Nat.le_trans hok.gl hi3) (by decide)
        refine ⟨_, rfl, b, _, dx, _, _, rfl, hb4, cB, n_given, bf_given _ _ _ _ _, _, rfl, b, _, dx, _, _, rfl, hb4, cB, n_last, bf_last _ _ _ _ _, d, _, rfl, DPut.k (k := Sum.inl ((B.last + 1 : Nat) : Int)) hd4 hdl, ?_⟩
        have hnew : valV kvs (Sum.inl ((B.last + 1 : Nat) : Int) : Key) = none := by
          have z := has_val (n := B.last + 1) hg4
          rw [no_key hok.gv] at z
          exact Option.isNone_iff_eq_none.mp (by rw [← Option.not_isSome, z]; rfl)
        rw [putK_new _ hnew]
        have bd : b ≠ d := ne_of hb4 hd4 (by intro z; cases z)
        have hqd : q ≠ d := fun e => by
          rw [e] at nq
          obtain ⟨kv3, z, _⟩ := hB3.dc
          rw [nq] at z
          cases z
        have k5 : Kept b d (upd (upd H2 b (.ins (He.ga K "Board") dx (bf y B.sh B.lk d (B.last + 1)))) q (.tup [vN i, vN ((ownOf B.Y B.sh i).1 ||| B.lk)])) (upd (upd (upd H2 b (.ins (He.ga K "Board") dx (bf y B.sh B.lk d (B.last + 1)))) q (.tup [vN i, vN ((ownOf B.Y B.sh i).1 ||| B.lk)])) d (.dK (kvs ++ [(Sum.inl ((B.last + 1 : Nat) : Int), .ref q)]))) := fun a o e _ h2 => by
          rw [upd_ne h2]
          exact e
        have hb5 : upd (upd (upd H2 b (.ins (He.ga K "Board") dx (bf y B.sh B.lk d (B.last + 1)))) q (.tup [vN i, vN ((ownOf B.Y B.sh i).1 ||| B.lk)])) d (.dK (kvs ++ [(Sum.inl ((B.last + 1 : Nat) : Int), .ref q)])) b = some (.ins (He.ga K "Board") dx (bf y B.sh B.lk d (B.last + 1))) := by
          rw [upd_ne bd]
          exact hb4
        refine ⟨_, rfl, b, _, dx, _, _, rfl, hb5, cB, n_last, bf_last _ _ _ _ _, hq _ ⟨⟨dx, hb5⟩, hB4.yd.keep (k5.tup hb4 hd4) (k5.lst hb4 hd4), _, upd_same, All2.snoc (hg4.mono fun _ _ z => z.keep (k5.tup hb4 hd4)) ⟨rfl, q, i, rfl, ?_⟩⟩ ?_⟩
        · rw [upd_ne hqd, upd_same]
        · exact (((Same.kept (s1.trans s2)).trans k3).trans (Same.kept s4)).trans k5
    · rw [if_neg h0] at hq
      refine ifnd_t (fun e => h0 (by have := V.int.inj e; omega)) ?_
      exact hq H1 s1

theorem gk_board (c : Ct K mg) : Gk P w K mg base 1 "Board" (spBoardI K) := by
  refine gk_of (d := dBoard_init) (N := ["self", "yard"]) (ps := ["self", "yard"]) (k := 0) c 54 rfl rfl rfl rfl ⟨rfl, rfl, rfl, by decide +kernel, rfl, by decide +kernel, by decide +kernel⟩ (fun _ _ _ _ _ _ us hl => match us, hl with | [_, _], _ => rfl) (fun vs H Q E h => ?_) (fun cdv A outer s H vs Q E hr h => ?_)
  · obtain ⟨b, y, dx, Y, rfl, _⟩ := h
    rfl
  · obtain ⟨b, y, dx, Y, rfl, hb, ⟨l, us, hA⟩, hok, hq⟩ := h
    have cB := c.cls "Board"
    have n_yard := c.noat "Board" "yard"
    have n_shut_ones := c.noat "Board" "shut_ones"
    have n_locks := c.noat "Board" "locks"
    have n_given := c.noat "Board" "given"
    have n_last := c.noat "Board" "last"
    refine ⟨_, PSs.nox (pss_cons (ps_fld (pv 0) (pe_tup (pa_cons (pe_ix ix_tup (pv 1) pe_int (fun _ _ => rfl)) (pa_cons (pe_callTy call_list_of (by rfl) (c.free "list") (by decide +kernel) (pa_cons (pe_ix ix_tup (pv 1) pe_int (fun _ _ => rfl)) pa_nil)) pa_nil))) rfl)
      (pss_cons (ps_fld (pv 0) pe_int rfl) (pss_cons (ps_fld (pv 0) pe_int rfl) (pss_cons (ps_fld (pv 0) pe_dnewK rfl) (pss_one (ps_fld (pv 0) pe_int rfl)))))), ?_⟩
    refine ⟨_, rfl, y, _, 0, _, rfl, rfl, SqT.of hA.tp, rfl, _, rfl, y, _, 1, _, rfl, rfl, SqT.of hA.tp, rfl, l, us, rfl, .inl (SqL.of hA.ls), fun l2 nl2 => ⟨(by show 2 ≤ sizeLine; decide), fun y2 ny2 => ?_⟩⟩
    have bl2 : b ≠ l2 := ne_of_none hb nl2
    have l2y2 : l2 ≠ y2 := fun e => by
      rw [← e, upd_same] at ny2
      cases ny2
    have by2 : b ≠ y2 := fun e => by
      rw [← e, upd_ne bl2, hb] at ny2
      cases ny2
    have hy2H : H y2 = none := by
      rw [upd_ne l2y2.symm] at ny2
      exact ny2
    have hb1 : upd (upd H l2 (.lst us)) y2 (.tup [vN Y.1, .ref l2]) b = some (.ins (He.ga K "Board") dx []) := by
      rw [upd_ne by2, upd_ne bl2]
      exact hb
    refine ⟨_, rfl, b, _, dx, [], rfl, hb1, cB, n_yard, (by show 0 < 1000; decide), ?_⟩
    refine ⟨_, rfl, b, _, dx, _, rfl, upd_same, cB, n_shut_ones, (by show 1 < 1000; decide), ?_⟩
    refine ⟨_, rfl, b, _, dx, _, rfl, upd_same, cB, n_locks, (by rw [length_put2]; decide), ?_⟩
    intro d hd
    have bd : b ≠ d := fun e => by
      rw [← e, upd_same] at hd
      cases hd
    refine ⟨_, rfl, b, _, dx, _, rfl, (by rw [upd_ne bd]; exact upd_same), cB, n_given, (by rw [length_put3]; decide), ?_⟩
    refine ⟨_, rfl, b, _, dx, _, rfl, upd_same, cB, n_last, (by rw [length_put4]; decide), ?_⟩
    have hd0 : upd (upd H l2 (.lst us)) y2 (.tup [vN Y.1, .ref l2]) d = none := by
      rw [upd_ne bd.symm, upd_ne bd.symm, upd_ne bd.symm] at hd
      exact hd
    have y2d : y2 ≠ d := fun e => by
      rw [← e, upd_same] at hd0
      cases hd0
    have l2d : l2 ≠ d := fun e => by
      rw [← e, upd_ne l2y2, upd_same] at hd0
      cases hd0
    have hdH : H d = none := by
      rw [upd_ne y2d.symm, upd_ne l2d.symm] at hd0
      exact hd0
    have keep : ∀ a o, H a = some o → a ≠ b → upd (upd (upd (upd (upd (upd (upd (upd H l2 (.lst us)) y2 (.tup [vN Y.1, .ref l2])) b (.ins (He.ga K "Board") dx (putF "yard" (.ref y2) []))) b (.ins (He.ga K "Board") dx (putF "shut_ones" (vN 0) (putF "yard" (.ref y2) [])))) b (.ins (He.ga K "Board") dx (putF "locks" (vN 0) (putF "shut_ones" (vN 0) (putF "yard" (.ref y2) []))))) d (.dK []))
        b (.ins (He.ga K "Board") dx (putF "given" (.ref d) (putF "locks" (vN 0) (putF "shut_ones" (vN 0) (putF "yard" (.ref y2) [])))))) b (.ins (He.ga K "Board") dx (bf y2 0 0 d 0)) a = some o := fun a o e h1 => by
      rw [upd_ne h1, upd_ne h1, upd_ne (ne_of_none e hdH), upd_ne h1, upd_ne h1, upd_ne h1, upd_ne (ne_of_none e hy2H), upd_ne (ne_of_none e nl2)]
      exact e
    refine hq y2 d _ ⟨⟨dx, upd_same⟩, ⟨l2, us, ?_, ?_, hA.sw.mono fun v sw ⟨t, e, ht⟩ => ⟨t, e, keep t _ ht (ne_of ht hb (by intro z; cases z))⟩⟩, [], ?_, trivial⟩ keep hy2H hdH
    · rw [upd_ne by2.symm, upd_ne by2.symm, upd_ne y2d, upd_ne by2.symm, upd_ne by2.symm, upd_ne by2.symm, upd_same]
    · rw [upd_ne bl2.symm, upd_ne bl2.symm, upd_ne l2d, upd_ne bl2.symm, upd_ne bl2.symm, upd_ne bl2.symm, upd_ne l2y2, upd_same]
    · rw [upd_ne bd.symm, upd_ne bd.symm, upd_same]

end
end K38

namespace K38
open PySem PySem.Spec PyProof.Rows L2
/-! ### texts: plain -/
def tN (n : Nat) : Str := SX.S (TL.numL n)
def rowOf (ws : List Str) : Str := Txt.join " " ws
/-- a word: no blank in it, short -/
structure Wd (w : Str) : Prop where
  nb : 32 ∉ TL.tl w
  sh : w.length ≤ 20
theorem tN_eq (n : Nat) : Str.ofString (toString ((n : Nat) : Int)) = tN n := SX.num_S n
theorem tN_len {n : Nat} (h : n < 10 ^ 9) : (tN n).length ≤ 9 := by
  unfold tN
  rw [SX.S_len]
  exact TL.numL_len (by decide) h
theorem wd_num {n : Nat} (h : n < 10 ^ 9) : Wd (tN n) := ⟨TL.numL_free (by decide), Nat.le_trans (tN_len h) (by decide)⟩
theorem joinL_len {s : List Nat} (m : Nat) (hs : s.length = 1) : ∀ ps : List (List Nat), (∀ p ∈ ps, p.length ≤ m) → (TL.joinL s ps).length ≤ ps.length * (m + 1)
  | [], _ => Nat.zero_le _
  | [p], h => by
    have := h p List.mem_cons_self
    show p.length ≤ 1 * (m + 1)
    omega
  | p :: q :: r, h => by
    have h1 := h p List.mem_cons_self
    have h2 := joinL_len m hs (q :: r) fun x hx => h x (List.mem_cons_of_mem _ hx)
    show (p ++ (s ++ TL.joinL s (q :: r))).length ≤ (r.length + 1 + 1) * (m + 1)
    rw [List.length_append, List.length_append, hs]
    rw [List.length_cons] at h2
    have e : (r.length + 1 + 1) * (m + 1) = (r.length + 1) * (m + 1) + (m + 1) := by rw [Nat.succ_mul (r.length + 1)]
    omega
theorem row_len {ws : List Str} (h : ∀ w ∈ ws, Wd w) : (rowOf ws).length ≤ ws.length * 21 := by
  unfold rowOf
  rw [TL.join_eq, TL.len_tl, TL.tl_join]
  have z := joinL_len (s := TL.tl (" " : Str)) 20 (by decide +kernel) (ws.map TL.tl) (fun p hp => by
    obtain ⟨w, hw, rfl⟩ := List.mem_map.mp hp
    rw [← TL.len_tl]
    exact (h w hw).sh)
  rw [List.length_map] at z
  exact z
theorem row_split {ws : List Str} (h : ∀ w ∈ ws, Wd w) (hne : ws ≠ []) : Txt.split (rowOf ws) " " = ws := by
  unfold rowOf
  exact TL.split_join (y := " ") (s := 32) (S := []) (by decide +kernel) (by decide +kernel) hne (fun p hp => (h p hp).nb)
theorem numL_head : ∀ n : Nat, 1 ≤ n → ∃ c r, TL.numL n = c :: r ∧ c ≠ 48 := by
  intro n
  induction n using Nat.strongRecOn with
  | ind n ih =>
    intro h
    rcases Nat.lt_or_ge n 10 with q | q
    · exact ⟨48 + n, [], TL.numL_lt q, by omega⟩
    · obtain ⟨c, r, e, hc⟩ := ih (n / 10) (by omega) (by omega)
      exact ⟨c, r ++ [48 + n % 10], by rw [TL.numL_step q, e]; rfl, hc⟩
theorem figs : TL.tl ("0123456789" : Str) = [48, 49, 50, 51, 52, 53, 54, 55, 56, 57] := by decide +kernel
theorem fig_mem {c : Nat} (h : 48 ≤ c ∧ c ≤ 57) : c ∈ ("0123456789" : Str).cps.toList := by
  rw [show ("0123456789" : Str).cps.toList = [48, 49, 50, 51, 52, 53, 54, 55, 56, 57] from figs]
  have : c = 48 ∨ c = 49 ∨ c = 50 ∨ c = 51 ∨ c = 52 ∨ c = 53 ∨ c = 54 ∨ c = 55 ∨ c = 56 ∨ c = 57 := by omega
  rcases this with rfl | rfl | rfl | rfl | rfl | rfl | rfl | rfl | rfl | rfl <;> decide
section
variable {P : Program} {w : World} {K : PySem.W.Frag} {mg : Str → Option Value} {base : Heap}
theorem Ct.gint (c : Ct K mg) (x : Str) (i : Int) (h : isInt x i = true := by decide +kernel) : ∃ u, mg x = some u ∧ RelV (.int i) u := by
  obtain ⟨t, e⟩ := c.int x i h
  exact ⟨_, e, ⟨_, rfl⟩⟩
theorem Ct.gstr (c : Ct K mg) (x z : Str) (h : isStr x z = true := by decide +kernel) : ∃ u, mg x = some u ∧ RelV (.str z) u := by
  obtain ⟨t, e⟩ := c.str x z h
  exact ⟨_, e, ⟨_, rfl⟩⟩
def spNumber : Sp := fun vs H Q _ => ∃ n : Nat, vs = [.str (tN n)] ∧ n < 10 ^ 9 ∧ Q (vN n) H
theorem go_number (c : Ct K mg) : Go P w K mg base 1 "number_of" spNumber := by
  have nd : (["word", "sign"] : List Str).Nodup := by decide +kernel
  refine go_of (d := d_number_of) (N := ["word", "sign"]) (ps := ["word"]) (k := 0) c 14 rfl rfl rfl rfl ⟨rfl, rfl, rfl, nd, rfl, by decide +kernel, by decide +kernel⟩ (fun _ _ _ _ _ _ us hl => match us, hl with | [_], _ => rfl) (fun vs H Q E h => ?_) (fun cdv A outer s H vs Q E hr h => ?_)
  · obtain ⟨n, rfl, _⟩ := h
    rfl
  · obtain ⟨n, rfl, hn, hq⟩ := h
    refine ⟨_, PSs.nox (pss_cons (ps_if (pt_not (pt_chain op_le op_le pe_int (pe_callB call_len_str (by rfl) (c.free "len") PySem.boot_len (pa_cons (pv 0) pa_nil)) (C8.pe_gc rfl (c.gint "LONGEST" 9)))) (pss_one ps_never) pss_nil)
      (pss_cons (ps_for PassesOwn.never rfl (pi_str (pv 0)) (pg_name (i := 1) nd rfl (Or.inl rfl)) (pss_one (ps_if (pt_cmpR op_notIn_sign (pv 1) (C8.pe_gc rfl (c.gstr "FIGURES" "0123456789")) (by rfl)) (pss_one ps_never) pss_nil)))
      (pss_cons (ps_if (PW.pt (pw_and (pt_cmpR op_eq (pe_ix ix_str (pv 0) pe_int (fun _ _ => rfl)) pe_str (nomark _)) (pw_and1 (pt_cmpR op_ne (pv 0) pe_str (nomark _))))) (pss_one ps_never) pss_nil)
      (pss_one (ps_ret (pe_callTy call_int_str (by rfl) (c.free "int") (by decide +kernel) (pa_cons (pv 0) pa_nil))))))), ?_⟩
    have h9 := tN_len hn
    have hle : (tN n).length = (TL.numL n).length := SX.S_len _
    have hpos : 1 ≤ (tN n).length := by
      rw [hle]
      exact List.length_pos_iff.mpr (TL.numL_ne n)
    have hz : (tN n).length ≤ sizeLine := Nat.le_trans h9 (by decide)
    refine ⟨_, rfl, _, rfl, hz, _, _, rfl, rfl, _, rfl, ifT (decide_eq_true (by omega)) ⟨_, _, rfl, rfl, _, rfl, ifF ?_ ?_⟩⟩
    · rw [decide_eq_true (by omega : ((tN n).length : Int) ≤ 9)]
      rfl
    refine ⟨_, rfl, _, rfl, ?_⟩
    refine for_it walk_str (fun i σ H2 => ∃ v1 : Option V, σ = [some (.str (tN n)), v1] ∧ H2 = H) ⟨none, rfl, rfl⟩ (fun _ _ _ _ _ => trivial) ?_ ?_
    · rintro i x σ H2 H3 hi ⟨v1, rfl, rfl⟩ ⟨rfl, d, hd, rfl⟩
      refine ⟨_, rfl, _, _, rfl, rfl, _, rfl, ifF ?_ ⟨_, rfl, rfl⟩⟩
      have hm : d ∈ TL.numL n := by
        have hd2 : (TL.numL n)[i]? = some d := by
          rw [← Array.getElem?_toList] at hd
          exact hd
        exact List.mem_of_getElem? hd2
      rw [decide_eq_true (fig_mem (TL.numL_digits n d hm))]
      rfl
    · rintro σ H2 ⟨v1, rfl, rfl⟩
      rcases Nat.eq_zero_or_pos n with rfl | hp
      · refine ⟨_, rfl, _, _, _, rfl, rfl, hz, atI_nat (j := 0) rfl, rfl, _, rfl, ifd_t (by decide +kernel) ⟨_, rfl, rfl, _, rfl, ifnd_f (by decide +kernel) ?_⟩⟩
        exact ⟨_, rfl, _, _, rfl, (by rw [← tN_eq]; exact TL.int_num (by decide +kernel)), (by omega), hq⟩
      · obtain ⟨d, r, e, hd⟩ := numL_head n hp
        refine ⟨_, rfl, _, _, d, rfl, rfl, hz, atI_nat (j := 0) (by show (TL.numL n)[0]? = some d; rw [e]; rfl), rfl, _, rfl, ifd_f (fun q => hd ?_) ?_⟩
        · have q2 := V.str.inj q
          have q3 : TL.tl (⟨#[d]⟩ : Str) = TL.tl ("0" : Str) := congrArg TL.tl q2
          have q4 : [d] = [48] := q3.trans (by decide +kernel)
          exact List.head_eq_of_cons_eq q4
        · exact ⟨_, rfl, _, _, rfl, (by rw [← tN_eq]; exact TL.int_num (by rw [← hle]; omega)), (by omega), hq⟩
end
end K38
namespace K38
open PySem PySem.Spec PyProof.Rows L2
/-! ### flat data -/
structure Fl (K : PySem.W.Frag) (H : Hp) (v : V) (d : PyData) : Prop where
  dp : Dp K H v d
  cl : d.canLay0 = true
  dn : d.depth = 0
theorem fl_int {K : PySem.W.Frag} {H : Hp} (i : Int) : Fl K H (.int i) (.int i) := ⟨.int i, by simp only [PyData.canLay0], by simp only [PyData.depth]⟩
theorem fl_bl {K : PySem.W.Frag} {H : Hp} (b : Bool) : Fl K H (.bl b) (.bool b) := ⟨.bl b, by simp only [PyData.canLay0], by simp only [PyData.depth]⟩
theorem fl_str {K : PySem.W.Frag} {H : Hp} (x : Str) (h : PyData.strOk x = true) : Fl K H (.str x) (.str x) := ⟨.str x, by simp only [PyData.canLay0]; exact h, by simp only [PyData.depth]⟩
theorem fl_all {K : PySem.W.Frag} {H : Hp} {α : Type} {f : α → V} {g : α → PyData} : ∀ {xs : List α}, (∀ x ∈ xs, Fl K H (f x) (g x)) → DpAll K H (xs.map f) (xs.map g) ∧ PyData.canLayAll0 (xs.map g) = true ∧ PyData.depthAll (xs.map g) = 0
  | [], _ => ⟨.nil, by simp only [List.map_nil, PyData.canLayAll0], by simp only [List.map_nil, PyData.depthAll]⟩
  | x :: xs, h => by
    obtain ⟨h1, h2, h3⟩ := fl_all (xs := xs) fun y hy => h y (List.mem_cons_of_mem _ hy)
    have q := h x List.mem_cons_self
    refine ⟨.cons q.dp h1, ?_, ?_⟩
    · simp only [List.map_cons, PyData.canLayAll0, q.cl, h2, Bool.and_true]
    · simp only [List.map_cons, PyData.depthAll, q.dn, h3, Nat.max_self]
theorem fl_list {K : PySem.W.Frag} {H : Hp} {α : Type} {f : α → V} {g : α → PyData} {xs : List α} {a : Addr} (h : ∀ x ∈ xs, Fl K H (f x) (g x)) (hs : SqL K H a (xs.map f)) : Dp K H (.ref a) (.list (xs.map g)) ∧ SeqAt.shaped (.list (xs.map g)) = true := by
  obtain ⟨h1, h2, h3⟩ := fl_all h
  refine ⟨.lst hs h1, ?_⟩
  unfold SeqAt.shaped
  rw [Bool.and_eq_true, decide_eq_true_eq]
  exact ⟨by simp only [PyData.canLay0]; exact h2, by simp only [PyData.depth, h3]; decide⟩
theorem fl_tup {K : PySem.W.Frag} {H : Hp} {α : Type} {f : α → V} {g : α → PyData} {xs : List α} {a : Addr} (h : ∀ x ∈ xs, Fl K H (f x) (g x)) (hs : SqT K H a (xs.map f)) : Dp K H (.ref a) (.tuple (xs.map g)) ∧ SeqAt.shaped (.tuple (xs.map g)) = true := by
  obtain ⟨h1, h2, h3⟩ := fl_all h
  refine ⟨.tup hs h1, ?_⟩
  unfold SeqAt.shaped
  rw [Bool.and_eq_true, decide_eq_true_eq]
  exact ⟨by simp only [PyData.canLay0]; exact h2, by simp only [PyData.depth, h3]; decide⟩
theorem eqv_nil (ds : List PyData) : PyData.eqv (.list ds) (.list []) = ds.isEmpty := by
  cases ds <;> simp [PyData.eqv, PyData.eqvAll]
theorem dp_nil {K : PySem.W.Frag} {H : Hp} {a : Addr} (h : H a = some (.lst [])) : Dp K H (.ref a) (.list []) ∧ SeqAt.shaped (.list []) = true := fl_list (α := Nat) (f := vN) (g := fun n => .int n) (xs := []) (fun _ h => absurd h List.not_mem_nil) (SqL.of h)
theorem cut_tail (x : V) (xs : List V) : cutV (x :: xs) (some 1) none = xs := by
  unfold cutV
  rw [HT.sIx_none, show HT.sIx (x :: xs).length 0 (some 1) = 1 from by
    rw [show (some (1 : Int)) = some ((1 : Nat) : Int) from rfl, HT.sIx_nat]
    exact Nat.min_eq_left (Nat.succ_le_succ (Nat.zero_le _))]
  show xs.take (xs.length + 1 - 1) = xs
  exact List.take_of_length_le (by omega)
/-! ### a switch's row -/
def Sw.kind : Sw → Str
  | .feed _ => "feed"
  | .earth _ => "earth"
  | .brk _ _ => "breaker"
  | .spl _ _ => "splitter"
def Sw.ends : Sw → List Nat
  | .feed b => [b]
  | .earth b => [b]
  | .brk a b => [a, b]
  | .spl a b => [a, b]
def Sw.words (sw : Sw) : List Str := sw.kind :: sw.ends.map tN
theorem Sw.parts_eq (sw : Sw) : sw.parts = .str sw.kind :: sw.ends.map vN := by cases sw <;> rfl
def endsN (k : Str) : Nat := if k = "feed" ∨ k = "earth" then 1 else if k = "breaker" ∨ k = "splitter" then 2 else 0
theorem ends_k : endsN "feed" = 1 ∧ endsN "earth" = 1 ∧ endsN "breaker" = 2 ∧ endsN "splitter" = 2 := by decide +kernel
theorem Sw.ends_len (sw : Sw) : endsN sw.kind = sw.ends.length := by
  cases sw with
  | feed b => exact ends_k.1
  | earth b => exact ends_k.2.1
  | brk a b => exact ends_k.2.2.1
  | spl a b => exact ends_k.2.2.2
def wdB (w : Str) : Bool := !decide (32 ∈ TL.tl w) && decide (w.length ≤ 20)
theorem wd_of {w : Str} (h : wdB w = true) : Wd w := by
  unfold wdB at h
  rw [Bool.and_eq_true, Bool.not_eq_true', decide_eq_false_iff_not, decide_eq_true_eq] at h
  exact ⟨h.1, h.2⟩
theorem wd_k : wdB "feed" = true ∧ wdB "earth" = true ∧ wdB "breaker" = true ∧ wdB "splitter" = true := by decide +kernel
theorem wd_kind (sw : Sw) : Wd sw.kind := by
  cases sw with
  | feed b => exact wd_of wd_k.1
  | earth b => exact wd_of wd_k.2.1
  | brk a b => exact wd_of wd_k.2.2.1
  | spl a b => exact wd_of wd_k.2.2.2
theorem Sw.ends_lt {sw : Sw} {n : Nat} (h : sw.ok n) : ∀ b ∈ sw.ends, b < n := by
  cases sw <;> simp only [Sw.ends, List.mem_cons, List.not_mem_nil, or_false] <;> intro b hb
  · subst hb; exact h
  · subst hb; exact h
  · rcases hb with rfl | rfl
    · exact h.1
    · exact h.2.1
  · rcases hb with rfl | rfl
    · exact h.1
    · exact h.2.1
theorem Sw.wds {sw : Sw} {n : Nat} (h : sw.ok n) (hn : n ≤ 10) : ∀ w ∈ sw.words, Wd w := by
  intro w hw
  rcases List.mem_cons.mp hw with rfl | hw
  · exact wd_kind sw
  · obtain ⟨b, hb, rfl⟩ := List.mem_map.mp hw
    have := Sw.ends_lt h b hb
    exact wd_num (Nat.lt_of_lt_of_le this (Nat.le_trans hn (by decide)))
theorem words_map (sw : Sw) : sw.words.map V.str = .str sw.kind :: sw.ends.map fun b => .str (tN b) := by
  show V.str sw.kind :: (sw.ends.map tN).map V.str = _
  rw [List.map_map]
  rfl
def spEnds : Sp := fun vs H Q _ => ∃ k : Str, vs = [.str k] ∧ Q (vN (endsN k)) H
def spCountTold : Sp := fun vs H Q _ => ∃ n : Nat, vs = [.str (rowOf ["bars", tN n])] ∧ 1 ≤ n ∧ n ≤ 10 ∧ ∀ H' : Hp, Same H H' → Q (vN n) H'
def spSwTold : Sp := fun vs H Q _ => ∃ (n : Nat) (sw : Sw), vs = [vN n, .str (rowOf sw.words)] ∧ n ≤ 10 ∧ sw.ok n ∧ ∀ (p : Addr) (H' : Hp), Same H H' → H p = none → H' p = some (.tup sw.parts) → Q (.ref p) H'
def spWith : Sp := fun vs H Q _ => ∃ (y : Addr) (Y : Yard) (sw : Sw), vs = [.ref y, .str (rowOf sw.words)] ∧ YH H y Y ∧ YOk Y ∧ Y.2.length < 12 ∧ sw.ok Y.1 ∧ ∀ (p : Addr) (H' : Hp), Same H H' → H p = none → YH H' p (Y.1, Y.2 ++ [sw]) → Q (.ref p) H'
theorem stf {x y : Str} (h : ¬ x = y) : ¬ V.str x = V.str y := fun e => h (V.str.inj e)
section
variable {P : Program} {w : World} {K : PySem.W.Frag} {mg : Str → Option Value} {base : Heap}
theorem go_ends (c : Ct K mg) : Go P w K mg base 1 "ends_of" spEnds := by
  refine go_of (d := d_ends_of) (N := ["kind"]) (ps := ["kind"]) (k := 0) c 16 rfl rfl rfl rfl ⟨rfl, rfl, rfl, by decide +kernel, rfl, by decide +kernel, by decide +kernel⟩ (fun _ _ _ _ _ _ us hl => match us, hl with | [_], _ => rfl) (fun vs H Q E h => ?_) (fun cdv A outer s H vs Q E hr h => ?_)
  · obtain ⟨n, rfl, _⟩ := h
    rfl
  · obtain ⟨k, rfl, hq⟩ := h
    refine ⟨_, PSs.nox (pss_cons (ps_if (PW.pt (pw_or (pt_cmpR op_eq (pv 0) pe_str (nomark _)) (pw_or1 (pt_cmpR op_eq (pv 0) pe_str (nomark _))))) (pss_one (ps_ret pe_int)) pss_nil)
      (pss_cons (ps_if (PW.pt (pw_or (pt_cmpR op_eq (pv 0) pe_str (nomark _)) (pw_or1 (pt_cmpR op_eq (pv 0) pe_str (nomark _))))) (pss_one (ps_ret pe_int)) pss_nil)
      (pss_one (ps_ret pe_int)))), ?_⟩
    unfold endsN at hq
    refine ⟨_, rfl, rfl, _, rfl, ?_⟩
    by_cases h1 : k = "feed"
    · refine ifd_t (by rw [h1]) ?_
      rw [if_pos (.inl h1)] at hq
      exact iteT hq
    refine ifd_f (stf h1) ⟨_, rfl, rfl, _, rfl, ?_⟩
    by_cases h2 : k = "earth"
    · refine ifd_t (by rw [h2]) ?_
      rw [if_pos (.inr h2)] at hq
      exact hq
    refine ifd_f (stf h2) ⟨_, rfl, rfl, _, rfl, ?_⟩
    rw [if_neg (fun e => e.elim h1 h2)] at hq
    by_cases h3 : k = "breaker"
    · refine ifd_t (by rw [h3]) ?_
      rw [if_pos (.inl h3)] at hq
      exact iteT hq
    refine ifd_f (stf h3) ⟨_, rfl, rfl, _, rfl, ?_⟩
    by_cases h4 : k = "splitter"
    · refine ifd_t (by rw [h4]) ?_
      rw [if_pos (.inr h4)] at hq
      exact hq
    refine ifd_f (stf h4) ?_
    rw [if_neg (fun e => e.elim h3 h4)] at hq
    exact hq
end
end K38
namespace K38
open PySem PySem.Spec PyProof.Rows L2
/-- a list that a comprehension fills, all else kept -/
structure LcI (H : Hp) (D : Addr) (ys : Nat → List V) (i : Nat) (H' : Hp) : Prop where
  s : Same H H'
  d : H' D = some (.lst (ys i))
theorem LcI.start {H : Hp} {D : Addr} {ys : Nat → List V} (hD : H D = none) (h0 : ys 0 = []) : LcI H D ys 0 (upd H D (.lst [])) := ⟨same_new hD, by rw [h0]; exact upd_same⟩
theorem LcI.step {H H' H4 : Hp} {D : Addr} {ys : Nat → List V} {i : Nat} {y : V} (h : LcI H D ys i H') (hD : H D = none) (s : Same H' H4) (e : ys (i + 1) = ys i ++ [y]) (hl : (ys i).length ≤ 1000) :
    ∃ acc, H4 D = some (.lst acc) ∧ acc.length < sizeLine ∧ LcI H D ys (i + 1) (upd H4 D (.lst (acc ++ [y]))) :=
  ⟨_, s D _ h.d, small1000 hl, same_mut (h.s.trans s) hD, by rw [e]; exact upd_same⟩
section
variable {P : Program} {w : World} {K : PySem.W.Frag} {mg : Str → Option Value} {base : Heap}
theorem go_count_told (c : Ct K mg) : Go P w K mg base 2 "count_told" spCountTold := by
  have nd : (["row", "words", "count"] : List Str).Nodup := by decide +kernel
  refine go_of (d := d_count_told) (N := ["row", "words", "count"]) (ps := ["row"]) (k := 1) c 15 rfl rfl rfl rfl ⟨rfl, rfl, rfl, nd, rfl, by decide +kernel, by decide +kernel⟩ (fun _ _ _ _ _ _ us hl => match us, hl with | [_], _ => rfl) (fun vs H Q E h => ?_) (fun cdv A outer s H vs Q E hr h => ?_)
  · obtain ⟨n, rfl, _⟩ := h
    rfl
  · obtain ⟨n, rfl, h1, h10, hq⟩ := h
    refine ⟨_, PSs.nox (pss_cons (ps_set (i := 1) nd rfl (Or.inl rfl) (pe_split (pv 0) pe_str))
      (pss_cons (ps_if (PW.pt (pw_or (pt_cmpR op_ne (pe_callB call_len_seq (by rfl) (c.free "len") PySem.boot_len (pa_cons (pv 1) pa_nil)) pe_int (nomark _)) (pw_or1 (pt_cmpR op_ne (pe_ix ix_list (pv 1) pe_int (fun _ _ => rfl)) pe_str (nomark _))))) (pss_one ps_never) pss_nil)
      (pss_cons (ps_set (i := 2) nd rfl (Or.inl rfl) (pe_g (go_number c) hr passL (pa_cons (pe_ix ix_list (pv 1) pe_int (fun _ _ => rfl)) pa_nil)))
      (pss_cons (ps_if (PW.pt (pw_or (pt_cmpR op_lt (pv 2) pe_int (nomark _)) (pw_or1 (pt_cmpR op_lt (C8.pe_gc rfl (c.gint "MOST_BARS" 10)) (pv 2) (nomark _))))) (pss_one ps_never) pss_nil)
      (pss_one (ps_ret (pv 2))))))), ?_⟩
    have h9 : n < 10 ^ 9 := Nat.lt_of_le_of_lt h10 (by decide)
    have hw : ∀ w ∈ (["bars", tN n] : List Str), Wd w := by
      intro w hw
      rcases List.mem_cons.mp hw with rfl | hw
      · exact wd_of (by decide +kernel)
      · rcases List.mem_cons.mp hw with rfl | hw
        · exact wd_num h9
        · cases hw
    have hlen := row_len hw
    refine ⟨_, rfl, ⟨_, rfl⟩, _, _, rfl, rfl, (by decide +kernel), Nat.le_trans (Nat.add_le_add_right hlen 2) (by show 2 * 21 + 2 ≤ sizeLine; decide), fun p np => ?_⟩
    rw [row_split hw (List.cons_ne_nil _ _)]
    refine ⟨_, rfl, p, _, rfl, .inl (SqL.of upd_same), rfl, _, rfl, ifnd_f rfl ?_⟩
    refine ⟨_, rfl, p, _, 0, _, rfl, rfl, SqL.of upd_same, rfl, rfl, _, rfl, ifnd_f rfl ?_⟩
    refine ⟨_, rfl, p, _, 1, _, rfl, rfl, SqL.of upd_same, rfl, n, rfl, h9, ?_⟩
    refine ⟨_, rfl, _, _, rfl, rfl, _, rfl, ifF (decide_eq_false (by omega)) ⟨_, rfl, _, _, rfl, rfl, _, rfl, ifF (decide_eq_false (by omega)) ?_⟩⟩
    exact ⟨_, rfl, hq _ (same_new np)⟩
theorem go_sw_told (c : Ct K mg) : Go P w K mg base 2 "switch_told" spSwTold := by
  have nd : (["count", "row", "words", "many", "ends", "bar", "word"] : List Str).Nodup := by decide +kernel
  refine go_of (d := d_switch_told) (N := ["count", "row", "words", "many", "ends", "bar", "word"]) (ps := ["count", "row"]) (k := 1) c 17 rfl rfl rfl rfl ⟨rfl, rfl, rfl, nd, rfl, by decide +kernel, by decide +kernel⟩ (fun _ _ _ _ _ _ us hl => match us, hl with | [_, _], _ => rfl) (fun vs H Q E h => ?_) (fun cdv A outer s H vs Q E hr h => ?_)
  · obtain ⟨n, sw, rfl, _⟩ := h
    rfl
  · obtain ⟨n, sw, rfl, h10, hok, hq⟩ := h
    refine ⟨_, PSs.nox (pss_cons (ps_set (i := 2) nd rfl (Or.inl rfl) (pe_split (pv 1) pe_str)) (pss_cons (ps_set (i := 3) nd rfl (Or.inl rfl) (pe_g (go_ends c) hr passL (pa_cons (pe_ix ix_list (pv 2) (pe_int) (fun _ _ => rfl)) (pa_nil)))) (pss_cons (ps_if (PW.pt (pw_or (pt_cmpR op_eq (pv 3) (pe_int) (nomark _)) (pw_or1 (pt_cmpR op_ne (pe_callB call_len_seq (by rfl) (c.free "len") PySem.boot_len (pa_cons (pv 2) pa_nil)) (pe_op op_add (pe_int) (pv 3)) (nomark _))))) (pss_one (ps_never)) (pss_nil)) (pss_cons (ps_setLc (i := 4) (own := [("word", 6)]) (g := gName 6) (tt := tYes) rfl nd rfl rfl (sw_true rfl rfl rfl rfl) (pi_list (pe_slice sl_list (pv 2) (po_some (pe_int)) (po_none))) (blkOk_by (own := [("word", 6)]) (N := ["count", "row", "words", "many", "ends", "bar", "word"]) (sc := defScope s_switch_told) (by decide +kernel)) (fun _ _ _ _ _ => pg_name (i := 6) nd rfl (Or.inl rfl)) (fun _ _ _ _ _ => pts_nil) (fun _ _ _ _ _ => by exact pe_g (go_number c) hr passL (pa_cons (pv 6) (pa_nil)))) (pss_cons (ps_for PassesOwn.never rfl (pi_list (pv 4)) (pg_name (i := 5) nd rfl (Or.inl rfl)) (pss_one (ps_if (pt_cmpR op_ge (pv 5) (pv 0) (nomark _)) (pss_one (ps_never)) (pss_nil)))) (pss_cons (ps_if (PW.pt (pw_and (pt_cmpR op_eq (pv 3) (pe_int) (nomark _)) (pw_and1 (pt_cmpR op_eq (pe_ix ix_list (pv 4) (pe_int) (fun _ _ => rfl)) (pe_ix ix_list (pv 4) (pe_int) (fun _ _ => rfl)) (nomark _))))) (pss_one (ps_never)) (pss_nil)) (pss_one (ps_ret (pe_op op_catT (pe_tup (pa_cons (pe_ix ix_list (pv 2) (pe_int) (fun _ _ => rfl)) (pa_nil))) (pe_callTy call_tuple_of (by rfl) (c.free "tuple") (by decide +kernel) (pa_cons (pv 4) (pa_nil)))))))))))), ?_⟩
    have hw := Sw.wds hok h10
    have hel : 1 ≤ sw.ends.length ∧ sw.ends.length ≤ 2 := by cases sw <;> simp [Sw.ends]
    have hwl : sw.words.length = sw.ends.length + 1 := by
      show (sw.ends.map tN).length + 1 = _
      rw [List.length_map]
    have hlen := row_len hw
    have hsz : (rowOf sw.words).length + 2 ≤ sizeLine := Nat.le_trans (show _ ≤ 3 * 21 + 2 by omega) (by decide)
    refine ⟨_, rfl, ⟨_, rfl⟩, _, _, rfl, rfl, (by decide +kernel), hsz, fun p np => ?_⟩
    rw [row_split hw (List.cons_ne_nil _ _), words_map]
    have e1 := Sw.ends_len sw
    have hb := Sw.ends_lt hok
    refine ⟨_, rfl, p, _, 0, _, rfl, rfl, SqL.of upd_same, atI_nat (j := 0) rfl, _, rfl, ?_⟩
    rw [e1]
    refine ⟨_, rfl, rfl, _, rfl, ifd_f (fun e => by have := V.int.inj e; omega) ?_⟩
    refine ⟨_, rfl, p, _, rfl, .inl (SqL.of upd_same), _, rfl, _, _, rfl, rfl, rfl, _, rfl, ifnd_f ?_ ?_⟩
    · rw [List.length_cons, List.length_map]
      exact congrArg V.int (by omega)
    refine ⟨_, rfl, _, rfl, p, _, rfl, SqL.of upd_same, fun q nq => ?_⟩
    rw [cut_tail]
    refine ⟨q, rfl, ⟨_, SqL.of upd_same⟩, fun D hD => ?_⟩
    generalize hH1 : upd (upd H p (.lst (V.str sw.kind :: sw.ends.map fun b => V.str (tN b)))) q (.lst (sw.ends.map fun b => V.str (tN b))) = H1 at hD ⊢
    have s1 : Same H H1 := by
      rw [← hH1]
      exact same_mut' (same_new np) nq
    have hp1 : H1 p = some (.lst (V.str sw.kind :: sw.ends.map fun b => V.str (tN b))) := by
      rw [← hH1, upd_ne (ne_of_none upd_same nq)]
      exact upd_same
    have hq1 : H1 q = some (.lst (sw.ends.map fun b => V.str (tN b))) := by
      rw [← hH1]
      exact upd_same
    refine lc_list (a := q) (xs := sw.ends.map fun b => V.str (tN b)) (LcI H1 D fun i => (sw.ends.take i).map vN) (LcI.start hD rfl) (fun i H2 _ h => SqL.of (h.s q _ hq1)) ?_ ?_
    · intro i x H2 hx h2
      rw [List.getElem?_map] at hx
      obtain ⟨b, hb1, rfl⟩ := Option.map_eq_some_iff.mp hx
      refine ⟨rfl, _, rfl, b, rfl, Nat.lt_of_lt_of_le (hb b (List.mem_of_getElem? hb1)) (Nat.le_trans h10 (by decide)), ?_⟩
      refine h2.step hD (Same.refl _) (by show (sw.ends.take (i + 1)).map vN = _; rw [take_more hb1, List.map_append]; rfl) ?_
      rw [List.length_map, List.length_take]
      omega
    · intro H2 h2
      rw [List.length_map] at h2
      have hD2 : H2 D = some (.lst (sw.ends.map vN)) := by
        have z := h2.d
        rw [List.take_of_length_le (Nat.le_refl _)] at z
        exact z
      have s2 := s1.trans h2.s
      refine ⟨_, rfl, D, rfl, ⟨_, SqL.of hD2⟩, ?_⟩
      refine for_list (a := D) (xs := sw.ends.map vN) (fun i σ H3 => ∃ v5, σ = [some (vN n), some (.str (rowOf sw.words)), some (.ref p), some (vN sw.ends.length), some (.ref D), v5, none] ∧ H3 = H2) ⟨none, rfl, rfl⟩ (fun i σ H3 _ h => by obtain ⟨_, _, rfl⟩ := h; exact SqL.of hD2) ?_ ?_
      · rintro i x σ H3 hx ⟨v5, rfl, rfl⟩
        rw [List.getElem?_map] at hx
        obtain ⟨b, hb1, rfl⟩ := Option.map_eq_some_iff.mp hx
        have := hb b (List.mem_of_getElem? hb1)
        exact ⟨_, rfl, _, rfl, _, _, rfl, rfl, _, rfl, ifF (decide_eq_false (by omega)) ⟨_, rfl, rfl⟩⟩
      · rintro σ H3 ⟨v5, rfl, rfl⟩
        refine ⟨_, rfl, rfl, _, rfl, ?_⟩
        have fin : tRet (tOp (rCatT K) (tTup (tCons (tOp (rIxL K) (tVar 2) (tC (.int 0))) tNil)) (tCB (fun xs H Q => ∃ p ys, xs = [V.ref p] ∧ ((SqL K H p ys ∧ ∀ l, H l = none → Q (V.ref l) (upd H l (HO.tup ys))) ∨ SqT K H p ys ∧ Q (V.ref p) H)) (tCons (tVar 4) tNil))) { nx := fun _ H' => Q .non H', rt := Q } [some (vN n), some (.str (rowOf sw.words)), some (.ref p), some (vN sw.ends.length), some (.ref D), v5, none] H3 := by
          refine ⟨_, rfl, p, _, 0, _, rfl, rfl, SqL.of (h2.s p _ hp1), atI_nat (j := 0) rfl, (by show 1 ≤ sizeLine; decide), fun t nt => ?_⟩
          have hDt : upd H3 t (.tup [V.str sw.kind]) D = some (.lst (sw.ends.map vN)) := by
            rw [upd_ne (ne_of_none hD2 nt)]
            exact hD2
          refine ⟨_, rfl, D, _, rfl, .inl ⟨SqL.of hDt, fun l nl => ?_⟩⟩
          have htl : upd (upd H3 t (.tup [V.str sw.kind])) l (.tup (sw.ends.map vN)) t = some (.tup [V.str sw.kind]) := by
            rw [upd_ne (ne_of_none upd_same nl)]
            exact upd_same
          refine ⟨t, l, _, _, rfl, rfl, SqT.of htl, SqT.of upd_same, List.cons_ne_nil _ _, ?_, fun e => ?_, fun _ r nr => ?_⟩
          · rw [List.length_map]
            exact Nat.le_trans (show 1 + sw.ends.length ≤ 3 by omega) (by decide)
          · have := congrArg List.length e
            rw [List.length_map, List.length_nil] at this
            omega
          · have s5 := same_mut' (o := .tup (sw.ends.map vN)) (same_mut' (o := .tup [V.str sw.kind]) s2 nt) nl
            exact hq r _ (same_mut' s5 nr) (s5.free nr) (by rw [Sw.parts_eq]; exact upd_same)
        by_cases h2e : sw.ends.length = 2
        · refine ifd_t (congrArg V.int (by rw [h2e]; rfl)) ?_
          obtain ⟨a, b, eab, hab⟩ : ∃ a b, sw.ends = [a, b] ∧ a ≠ b := by
            cases sw with
            | feed b => cases h2e
            | earth b => cases h2e
            | brk a b => exact ⟨a, b, rfl, hok.2.2⟩
            | spl a b => exact ⟨a, b, rfl, hok.2.2⟩
          rw [eab] at hD2
          refine ⟨_, rfl, D, _, 0, _, rfl, rfl, SqL.of hD2, rfl, _, rfl, D, _, 1, _, rfl, rfl, SqL.of hD2, rfl, rfl, _, rfl, ifd_f (fun e => hab (by have := V.int.inj e; omega)) ?_⟩
          exact fin
        · exact ifd_f (fun e => h2e (by have := V.int.inj e; omega)) fin
theorem go_with (c : Ct K mg) : Go P w K mg base 3 "with_switch" spWith := by
  have nd : (["yard", "row"] : List Str).Nodup := by decide +kernel
  refine go_of (d := d_with_switch) (N := ["yard", "row"]) (ps := ["yard", "row"]) (k := 2) c 18 rfl rfl rfl rfl ⟨rfl, rfl, rfl, nd, rfl, by decide +kernel, by decide +kernel⟩ (fun _ _ _ _ _ _ us hl => match us, hl with | [_, _], _ => rfl) (fun vs H Q E h => ?_) (fun cdv A outer s H vs Q E hr h => ?_)
  · obtain ⟨y, Y, sw, rfl, _⟩ := h
    rfl
  · obtain ⟨y, Y, sw, rfl, ⟨l, us, hA⟩, hYk, h12, hok, hq⟩ := h
    refine ⟨_, PSs.nox (pss_cons (ps_if (pt_cmpR op_ge (pe_callB call_len_seq (by rfl) (c.free "len") PySem.boot_len (pa_cons (pe_ix ix_tup (pv 0) (pe_int) (fun _ _ => rfl)) pa_nil)) (C8.pe_gc rfl (c.gint "MOST_SWITCHES" 12)) (nomark _)) (pss_one (ps_never)) (pss_nil)) (pss_one (ps_ret (pe_tup (pa_cons (pe_ix ix_tup (pv 0) (pe_int) (fun _ _ => rfl)) (pa_cons (pe_op op_cat (pe_ix ix_tup (pv 0) (pe_int) (fun _ _ => rfl)) (pe_lst (pa_cons (pe_g (go_sw_told c) hr passL (pa_cons (pe_ix ix_tup (pv 0) (pe_int) (fun _ _ => rfl)) (pa_cons (pv 1) (pa_nil)))) (pa_nil)))) (pa_nil))))))), ?_⟩
    have hlen := hA.sw.len
    refine ⟨_, rfl, y, _, 1, _, rfl, rfl, SqT.of hA.tp, rfl, l, us, rfl, .inl (SqL.of hA.ls), _, _, rfl, rfl, _, rfl, ifF (decide_eq_false (by omega)) ?_⟩
    refine ⟨_, rfl, y, _, 0, _, rfl, rfl, SqT.of hA.tp, rfl, _, rfl, y, _, 1, _, rfl, rfl, SqT.of hA.tp, rfl, ?_⟩
    refine ⟨_, rfl, y, _, 0, _, rfl, rfl, SqT.of hA.tp, rfl, _, rfl, Y.1, sw, rfl, hYk.n, hok, fun t H1 s1 nt ht => ⟨by show 1 ≤ sizeLine; decide, fun m nm => ?_⟩⟩
    have hl1 : H1 l = some (.lst us) := s1 l _ hA.ls
    have hlm : upd H1 m (.lst [.ref t]) l = some (.lst us) := by
      rw [upd_ne (ne_of_none hl1 nm)]
      exact hl1
    refine ⟨l, m, us, [.ref t], rfl, rfl, hlm, upd_same, Nat.le_trans (show us.length + 1 ≤ 12 by omega) (by decide), fun r nr => ⟨by show 2 ≤ sizeLine; decide, fun z nz => ?_⟩⟩
    have s2 : Same H (upd (upd H1 m (.lst [.ref t])) r (.lst (us ++ [.ref t]))) := same_mut' (same_mut' s1 nm) nr
    have s3 := same_mut' (o := .tup [vN Y.1, .ref r]) s2 nz
    have s1' : Same H1 (upd (upd (upd H1 m (.lst [.ref t])) r (.lst (us ++ [.ref t]))) z (.tup [vN Y.1, .ref r])) := same_mut' (same_mut' (same_new nm) nr) nz
    refine hq z _ s3 (s2.free nz) ⟨r, us ++ [.ref t], ⟨upd_same, ?_, ?_⟩⟩
    · rw [upd_ne (ne_of_none upd_same nz)]
      exact upd_same
    · exact All2.snoc (hA.sw.mono fun _ _ ⟨u, e, q⟩ => ⟨u, e, s3 u _ q⟩) ⟨t, rfl, s1' t _ ht⟩
end
end K38
namespace K38
open PySem PySem.Spec PyProof.Rows L2
theorem log_small {n : Nat} (h : n < 10 ^ 9) : ((n : Nat) : Int).natAbs.log2 < 1920 := by
  rw [Int.natAbs_natCast]
  have h1 : n.log2 ≤ 30 := by
    by_cases h0 : n = 0
    · subst h0
      decide
    · have := (Nat.log2_lt h0 (k := 31)).mpr (Nat.lt_of_lt_of_le h (by decide))
      omega
  omega
theorem sum_len : ∀ {ws : List Str}, (∀ w ∈ ws, Wd w) → (ws.map (·.length)).sum ≤ 20 * ws.length
  | [], _ => Nat.zero_le _
  | w :: ws, h => by
    have h1 := (h w List.mem_cons_self).sh
    have h2 := sum_len (ws := ws) fun x hx => h x (List.mem_cons_of_mem _ hx)
    rw [List.map_cons, List.sum_cons, List.length_cons]
    omega
theorem join_small {ws : List Str} (h : ∀ w ∈ ws, Wd w) (hl : ws.length ≤ 1000) : (ws.map (·.length)).sum + ws.length * (" " : Str).length ≤ 16777216 := by
  have h1 := sum_len h
  rw [show (" " : Str).length = 1 from by decide +kernel]
  omega
def numT (ns : List Nat) : Str := if ns = [] then "none" else rowOf (ns.map tN)
def spNumbers (K : PySem.W.Frag) : Sp := fun vs H Q _ => ∃ (p : Addr) (ns : List Nat), vs = [.ref p] ∧ H p = some (.lst (ns.map vN)) ∧ ns.length ≤ 12 ∧ (∀ n ∈ ns, n < 12) ∧ ∀ H' : Hp, Same H H' → Q (.str (numT ns)) H'
def spPlace (K : PySem.W.Frag) : Sp := fun vs H Q _ => ∃ (y p : Addr) (Y : Yard) (bs : List Nat), vs = [.ref y, .ref p] ∧ YH H y Y ∧ H p = some (.lst (bs.map fun b => .str (tN b))) ∧ Y.1 ≤ 10 ∧ bs ≠ [] ∧ bs.length ≤ 10 ∧ (∀ b ∈ bs, b < Y.1) ∧ bs.Pairwise (· < ·) ∧
  ∀ H' : Hp, Same H H' → Q (vN (bs.map (2 ^ ·)).sum) H'
theorem sum_cast : ∀ bs : List Nat, (bs.map fun b => ((2 ^ b : Nat) : Int)).sum = (((bs.map (2 ^ ·)).sum : Nat) : Int)
  | [] => rfl
  | b :: bs => by
    rw [List.map_cons, List.sum_cons, List.map_cons, List.sum_cons, sum_cast bs]
    exact (Int.natCast_add _ _).symm
theorem dp_nats {K : PySem.W.Frag} {H : Hp} {a : Addr} {ns : List Nat} (h : SqL K H a (ns.map vN)) : Dp K H (.ref a) (.list (ns.map fun n => .int (n : Nat))) ∧ SeqAt.shaped (.list (ns.map fun n => .int (n : Nat))) = true := fl_list (fun n _ => fl_int _) h
theorem empty_map {α β : Type} (f : α → β) (ns : List α) : (ns.map f).isEmpty = decide (ns = []) := by
  cases ns with
  | nil => rfl
  | cons a b => exact (decide_eq_false (List.cons_ne_nil a b)).symm
section
variable {P : Program} {w : World} {K : PySem.W.Frag} {mg : Str → Option Value} {base : Heap}
theorem go_numbers (c : Ct K mg) : Go P w K mg base 1 "numbers_text" (spNumbers K) := by
  have nd : (["numbers", "number"] : List Str).Nodup := by decide +kernel
  refine go_of (d := d_numbers_text) (N := ["numbers", "number"]) (ps := ["numbers"]) (k := 0) c 19 rfl rfl rfl rfl ⟨rfl, rfl, rfl, nd, rfl, by decide +kernel, by decide +kernel⟩ (fun _ _ _ _ _ _ us hl => match us, hl with | [_], _ => rfl) (fun vs H Q E h => ?_) (fun cdv A outer s H vs Q E hr h => ?_)
  · obtain ⟨p, ns, rfl, _⟩ := h
    rfl
  · obtain ⟨p, ns, rfl, hp, h12, hlt, hq⟩ := h
    refine ⟨_, PSs.nox (pss_cons (ps_if (pt_cmpR (op_eqD hr.units) (pv 0) (pe_lst (pa_nil)) (nomark _)) (pss_one (ps_ret (pe_str))) (pss_nil)) (pss_one (ps_ret (pe_join pe_str (pe_lc (own := [("number", 1)]) (g := gName 1) (tt := tYes) rfl nd (pi_list (pv 0)) (blkOk_by (own := [("number", 1)]) (N := ["numbers", "number"]) (sc := defScope s_numbers_text) (by decide +kernel)) (fun _ _ _ _ _ => pg_name (i := 1) nd rfl (Or.inl rfl)) (fun _ _ _ _ _ => pts_nil) (fun _ _ _ _ _ => by exact pe_callTy call_str_int (by rfl) (c.free "str") (by decide +kernel) (pa_cons (pv 1) (pa_nil)))))))), ?_⟩
    unfold numT at hq
    refine ⟨_, rfl, Nat.zero_le _, fun l nl => ?_⟩
    have hp2 := same_new (o := .lst []) nl p _ hp
    obtain ⟨d1, d2⟩ := dp_nats (K := K) (SqL.of hp2)
    obtain ⟨d3, d4⟩ := dp_nil (K := K) (H := upd H l (.lst [])) (a := l) upd_same
    refine ⟨_, _, d1, d3, d2, d4, _, rfl, ?_⟩
    rw [eqv_nil, empty_map]
    by_cases h0 : ns = []
    · rw [decide_eq_true h0]
      rw [if_pos h0] at hq
      exact iteT (hq _ (same_new nl))
    rw [decide_eq_false h0]
    rw [if_neg h0] at hq
    refine iteF ⟨⟨_, rfl⟩, _, rfl, p, rfl, ⟨_, SqL.of hp2⟩, fun D hD => ?_⟩
    refine lc_list (a := p) (xs := ns.map vN) (LcI (upd H l (.lst [])) D fun i => (ns.take i).map fun n => .str (tN n)) (LcI.start hD rfl) (fun i H2 _ h => SqL.of (h.s p _ hp2)) ?_ ?_
    · intro i x H2 hx h2
      rw [List.getElem?_map] at hx
      obtain ⟨b, hb1, rfl⟩ := Option.map_eq_some_iff.mp hx
      have hb := hlt b (List.mem_of_getElem? hb1)
      refine ⟨rfl, _, rfl, _, rfl, log_small (Nat.lt_of_lt_of_le hb (by decide)), ?_⟩
      refine h2.step hD (Same.refl _) ?_ ?_
      · show (ns.take (i + 1)).map (fun n => V.str (tN n)) = _
        rw [take_more hb1, List.map_append, tN_eq]
        rfl
      · rw [List.length_map, List.length_take]
        omega
    · intro H2 h2
      rw [List.length_map] at h2
      have hD2 : H2 D = some (.lst ((ns.map tN).map V.str)) := by
        have z := h2.d
        rw [List.take_of_length_le (Nat.le_refl _)] at z
        rw [List.map_map]
        exact z
      have hw : ∀ w ∈ ns.map tN, Wd w := by
        intro w hw
        obtain ⟨b, hb, rfl⟩ := List.mem_map.mp hw
        exact wd_num (Nat.lt_of_lt_of_le (hlt b hb) (by decide))
      exact ⟨_, D, ns.map tN, rfl, rfl, .inl (SqL.of hD2), join_small hw (by rw [List.length_map]; omega), hq H2 ((same_new nl).trans h2.s)⟩
theorem go_place (c : Ct K mg) : Go P w K mg base 2 "place_told" (spPlace K) := by
  have nd : (["yard", "words", "bars", "k", "word", "bar"] : List Str).Nodup := by decide +kernel
  refine go_of (d := d_place_told) (N := ["yard", "words", "bars", "k", "word", "bar"]) (ps := ["yard", "words"]) (k := 1) c 20 rfl rfl rfl rfl ⟨rfl, rfl, rfl, nd, rfl, by decide +kernel, by decide +kernel⟩ (fun _ _ _ _ _ _ us hl => match us, hl with | [_, _], _ => rfl) (fun vs H Q E h => ?_) (fun cdv A outer s H vs Q E hr h => ?_)
  · obtain ⟨y, p, Y, bs, rfl, _⟩ := h
    rfl
  · obtain ⟨y, p, Y, bs, rfl, hY, hp, h10, hne, hl10, hlt, hpw, hq⟩ := h
    refine ⟨_, PSs.nox (pss_cons (ps_setLc (i := 2) (own := [("word", 4)]) (g := gName 4) (tt := tYes) rfl nd rfl rfl (sw_true rfl rfl rfl rfl) (pi_list (pv 1)) (blkOk_by (own := [("word", 4)]) (N := ["yard", "words", "bars", "k", "word", "bar"]) (sc := defScope s_place_told) (by decide +kernel)) (fun _ _ _ _ _ => pg_name (i := 4) nd rfl (Or.inl rfl)) (fun _ _ _ _ _ => pts_nil) (fun _ _ _ _ _ => by exact pe_g (go_number c) hr passL (pa_cons (pv 4) (pa_nil)))) (pss_cons (ps_for PassesOwn.never rfl (pi_range2 rfl (c.free "range") (pa_cons (pe_int) (pa_cons (pe_callB call_len_seq (by rfl) (c.free "len") PySem.boot_len (pa_cons (pv 2) pa_nil)) (pa_nil)))) (pg_name (i := 3) nd rfl (Or.inl rfl)) (pss_one (ps_if (pt_cmpR op_ge (pe_ix ix_list (pv 2) (pe_op op_sub (pv 3) (pe_int)) (fun _ _ => rfl)) (pe_ix ix_list (pv 2) (pv 3) (fun _ _ => rfl)) (nomark _)) (pss_one (ps_never)) (pss_nil)))) (pss_cons (ps_if (pt_cmpR (op_eqD hr.units) (pv 2) (pe_lst (pa_nil)) (nomark _)) (pss_one (ps_never)) (pss_nil)) (pss_cons (ps_if (pt_cmpR op_ge (pe_ix ix_list (pv 2) (pe_un un_neg pe_int) (fun _ _ => rfl)) (pe_ix ix_tup (pv 0) (pe_int) (fun _ _ => rfl)) (nomark _)) (pss_one (ps_never)) (pss_nil)) (pss_one (ps_ret (pe_callB (cr_sum rfl) (by rfl) (c.free "sum") PyProof.Rows.boot_sum (pa_cons (pe_lc (own := [("bar", 5)]) (g := gName 5) (tt := tYes) rfl nd (pi_list (pv 2)) (blkOk_by (own := [("bar", 5)]) (N := ["yard", "words", "bars", "k", "word", "bar"]) (sc := defScope s_place_told) (by decide +kernel)) (fun _ _ _ _ _ => pg_name (i := 5) nd rfl (Or.inl rfl)) (fun _ _ _ _ _ => pts_nil) (fun _ _ _ _ _ => by exact pe_op opn_one (pe_int) (pv 5))) (pa_nil))))))))), ?_⟩
    have hb9 : ∀ b ∈ bs, b < 10 := fun b hb => Nat.lt_of_lt_of_le (hlt b hb) h10
    refine ⟨_, rfl, p, rfl, ⟨_, SqL.of hp⟩, fun D hD => ?_⟩
    refine lc_list (a := p) (xs := bs.map fun b => .str (tN b)) (LcI H D fun i => (bs.take i).map vN) (LcI.start hD rfl) (fun i H2 _ h => SqL.of (h.s p _ hp)) ?_ ?_
    · intro i x H2 hx h2
      rw [List.getElem?_map] at hx
      obtain ⟨b, hb1, rfl⟩ := Option.map_eq_some_iff.mp hx
      refine ⟨rfl, _, rfl, b, rfl, Nat.lt_of_lt_of_le (hb9 b (List.mem_of_getElem? hb1)) (by decide), ?_⟩
      refine h2.step hD (Same.refl _) (by show (bs.take (i + 1)).map vN = _; rw [take_more hb1, List.map_append]; rfl) ?_
      rw [List.length_map, List.length_take]
      omega
    · intro H2 h2
      rw [List.length_map] at h2
      have hD2 : H2 D = some (.lst (bs.map vN)) := by
        have z := h2.d
        rw [List.take_of_length_le (Nat.le_refl _)] at z
        exact z
      have hY2 := hY.mono h2.s
      have hml : (bs.map vN).length = bs.length := List.length_map ..
      refine ⟨_, rfl, D, _, rfl, .inl (SqL.of hD2), _, _, rfl, ⟨by decide, by decide, by rw [hml]; omega, by rw [hml]; omega⟩, ?_⟩
      have hix : ∀ {i b : Nat}, bs[i]? = some b → (bs.map vN)[i]? = some (vN b) := fun h => by
        rw [List.getElem?_map, h]
        rfl
      refine for_range (lo := 1) (fun i σ H3 => ∃ v3, σ = [some (.ref y), some (.ref p), some (.ref D), v3, none, none] ∧ H3 = H2) ⟨none, rfl, rfl⟩ ?_ ?_
      · rintro i σ H3 hi ⟨v3, rfl, rfl⟩
        rw [hml] at hi
        have h1 : i + 1 < bs.length := by omega
        have h2 : i < bs.length := by omega
        have hlt2 : bs[i] < bs[i + 1] := (List.pairwise_iff_getElem.mp hpw) i (i + 1) h2 h1 (Nat.lt_succ_self i)
        refine ⟨_, rfl, _, rfl, _, _, rfl, rfl, D, _, (i : Int), _, rfl, (by show V.int (1 + (i : Int) - 1) = _; rw [show (1 + (i : Int) - 1) = (i : Int) by omega]), SqL.of hD2, atI_nat (hix (List.getElem?_eq_getElem h2)), ?_⟩
        refine ⟨_, rfl, _, rfl, D, _, ((i + 1 : Nat) : Int), _, rfl, (by show V.int (1 + (i : Int)) = _; rw [show (1 + (i : Int)) = ((i + 1 : Nat) : Int) by omega]), SqL.of hD2, atI_nat (hix (List.getElem?_eq_getElem h1)), ?_⟩
        exact ⟨_, _, rfl, rfl, _, rfl, ifF (decide_eq_false (by omega)) ⟨_, rfl, rfl⟩⟩
      · rintro σ H3 ⟨v3, rfl, rfl⟩
        refine ⟨_, rfl, Nat.zero_le _, fun l nl => ?_⟩
        have sl := same_new (o := .lst []) nl
        have hD3 := sl D _ hD2
        obtain ⟨d1, d2⟩ := dp_nats (K := K) (SqL.of hD3)
        obtain ⟨d3, d4⟩ := dp_nil (K := K) (H := upd H3 l (.lst [])) (a := l) upd_same
        refine ⟨_, _, d1, d3, d2, d4, _, rfl, ?_⟩
        rw [eqv_nil, empty_map, decide_eq_false hne]
        refine iteF ?_
        obtain ⟨r, z, e⟩ : ∃ r z, bs = r ++ [z] := ⟨bs.dropLast, bs.getLast hne, (List.dropLast_concat_getLast hne).symm⟩
        have hz : z < Y.1 := hlt z (by rw [e]; exact List.mem_append_right _ List.mem_cons_self)
        obtain ⟨yl, yvs, hA⟩ := hY2.mono sl
        refine ⟨_, rfl, _, rfl, D, _, -1, _, rfl, rfl, SqL.of hD3, (by rw [e, List.map_append]; exact atI_last _ _), _, rfl, y, _, 0, _, rfl, rfl, SqT.of hA.tp, rfl, _, _, rfl, rfl, _, rfl, ifF (decide_eq_false (by omega)) ?_⟩
        refine ⟨_, rfl, D, rfl, ⟨_, SqL.of hD3⟩, fun F hF => ?_⟩
        refine lc_list (a := D) (xs := bs.map vN) (LcI (upd H3 l (.lst [])) F fun i => (bs.take i).map fun b => vN (2 ^ b)) (LcI.start hF rfl) (fun i H2 _ h => SqL.of (h.s D _ hD3)) ?_ ?_
        · intro i x H4 hx h4
          rw [List.getElem?_map] at hx
          obtain ⟨b, hb1, rfl⟩ := Option.map_eq_some_iff.mp hx
          have := hb9 b (List.mem_of_getElem? hb1)
          refine ⟨rfl, _, rfl, b, rfl, rfl, by omega, ?_⟩
          refine h4.step hF (Same.refl _) (by show (bs.take (i + 1)).map (fun b => vN (2 ^ b)) = _; rw [take_more hb1, List.map_append]; rfl) ?_
          rw [List.length_map, List.length_take]
          omega
        · intro H4 h4
          rw [List.length_map] at h4
          have hF2 : H4 F = some (.lst ((bs.map fun b => ((2 ^ b : Nat) : Int)).map V.int)) := by
            have z := h4.d
            rw [List.take_of_length_le (Nat.le_refl _)] at z
            rw [List.map_map]
            exact z
          refine ⟨F, _, rfl, SqL.of hF2, ?_⟩
          rw [sum_cast]
          exact hq H4 ((h2.s.trans sl).trans h4.s)
end
end K38
namespace K38
open PySem PySem.Spec PyProof.Rows L2
/-! ### the desk -/
def dkf (u v : V) : List (Str × V) := putF "board" v (putF "yard" u [])
theorem dk_eq (u v : V) : dkf u v = ([("yard", u), ("board", v)] : List (Str × V)) := by
  have e1 : ¬ ("yard" : Str) = "board" := by decide +kernel
  unfold dkf
  simp only [putF, if_neg e1]
theorem dk_yard (u v : V) : (dkf u v).lookup ("yard" : Str) = some u := by
  unfold dkf
  rw [lookup_putF, if_neg (by decide +kernel), lookup_putF, if_pos rfl]
theorem dk_board (u v : V) : (dkf u v).lookup ("board" : Str) = some v := by
  unfold dkf
  rw [lookup_putF, if_pos rfl]
theorem dk_no (u v : V) {m : Str} (h1 : ¬ m = "yard") (h2 : ¬ m = "board") : (dkf u v).lookup m = none := by
  unfold dkf
  rw [lookup_putF, if_neg h2, lookup_putF, if_neg h1]
  rfl
theorem dk_put_yard (u v x : V) : putF "yard" x (dkf u v) = dkf x v := by
  rw [dk_eq, dk_eq]
  simp only [putF, if_true]
theorem dk_put_board (u v x : V) : putF "board" x (dkf u v) = dkf u x := by
  have h1 : ¬ (("yard" : Str) = "board") := by decide +kernel
  rw [dk_eq, dk_eq]
  simp only [putF, if_neg h1, if_true]
theorem dk_small (u v : V) : (dkf u v).length < 1000 := by
  rw [dk_eq]
  show 2 < 1000
  decide
structure DkAt (K : PySem.W.Frag) (H : Hp) (a y b yb db : Addr) (B : Bd) : Prop where
  ob : ∃ dx, H a = some (.ins (He.ga K "Desk") dx (dkf (.ref y) (.ref b)))
  yd : YH H y B.Y
  bd : BAt K H b yb db B
/-- kept, but for this object -/
def KeptA (a : Addr) (H H' : Hp) : Prop := ∀ x o, H x = some o → x ≠ a → H' x = some o
theorem DkAt.mono {K : PySem.W.Frag} {H H' : Hp} {a y b yb db : Addr} {B : Bd} (h : DkAt K H a y b yb db B) (s : Same H H') : DkAt K H' a y b yb db B := by
  obtain ⟨⟨dx, h1⟩, h2, h3⟩ := h
  exact ⟨⟨dx, s _ _ h1⟩, h2.mono s, h3.mono s⟩
theorem ne_db {H : Hp} {a b C D dx ex : Addr} {u v : V} {y d : Addr} {s l n : Nat} (h1 : H a = some (.ins C dx (dkf u v))) (h2 : H b = some (.ins D ex (bf y s l d n))) : a ≠ b := fun e => by
  subst e
  rw [h1] at h2
  have e := Option.some.inj h2
  injection e with e1 e2 e3
  rw [dk_eq, bf_eq] at e3
  have := congrArg List.length e3
  revert this
  show 2 = 5 → False
  decide
theorem DkAt.op {K : PySem.W.Frag} {H H' : Hp} {a y b yb db : Addr} {B B' : Bd} (h : DkAt K H a y b yb db B) (hb : BAt K H' b yb db B') (k : Kept b db H H') (e : B'.Y = B.Y) : DkAt K H' a y b yb db B' := by
  obtain ⟨⟨dx, h1⟩, h2, h3⟩ := h
  obtain ⟨dx2, h4⟩ := h3.ob
  obtain ⟨kvs, h5, _⟩ := h3.dc
  refine ⟨⟨dx, k a _ h1 (ne_db h1 h4) (ne_of h1 h5 (by intro z; cases z))⟩, ?_, hb⟩
  rw [e]
  exact h2.keep (k.tup h4 h5) (k.lst h4 h5)
/-! ### rows of one word -/
inductive Lk where
  | live | earthed | locked | shut
def Lk.word : Lk → Str
  | .live => "live"
  | .earthed => "earthed"
  | .locked => "locked"
  | .shut => "shut"
def Lk.val (B : Bd) : Lk → Nat
  | .live => liveN B.Y B.sh
  | .earthed => earthN B.Y B.sh
  | .locked => B.lk
  | .shut => B.sh
theorem bits_lt {n : Nat} : ∀ b ∈ bitsOf n, b < 12 := fun b hb => List.mem_range.mp (List.mem_filter.mp hb).1
def spLook (K : PySem.W.Frag) : Sp := fun vs H Q _ => ∃ (a y b yb db : Addr) (B : Bd) (k : Lk), vs = [.ref a, .str k.word] ∧ DkAt K H a y b yb db B ∧ BOk B ∧ ∀ H' : Hp, Same H H' → Q (.str (numT (bitsOf (k.val B)))) H'
def spBegun (K : PySem.W.Frag) : Sp := fun vs H Q _ => ∃ (a y dx : Addr) (u v : V) (Y : Yard), vs = [.ref a, .ref y] ∧ H a = some (.ins (He.ga K "Desk") dx (dkf u v)) ∧ YH H y Y ∧ YOk Y ∧
  ∀ (b yb db : Addr) (H' : Hp), DkAt K H' a y b yb db ⟨Y, 0, 0, [], 0⟩ → KeptA a H H' → Q (.str "ok") H'
def spDeskI (K : PySem.W.Frag) : Sp := fun vs H Q _ => ∃ (a dx : Addr), vs = [.ref a] ∧ H a = some (.ins (He.ga K "Desk") dx []) ∧ ∀ H' : Hp, H' a = some (.ins (He.ga K "Desk") dx (dkf .non .non)) → KeptA a H H' → Q .non H'
section
variable {P : Program} {w : World} {K : PySem.W.Frag} {mg : Str → Option Value} {base : Heap}
theorem gk_desk (c : Ct K mg) : Gk P w K mg base 1 "Desk" (spDeskI K) := by
  have nd : (["self"] : List Str).Nodup := by decide +kernel
  refine gk_of (d := dDesk_init) (N := ["self"]) (ps := ["self"]) (k := 0) c 64 rfl rfl rfl rfl ⟨rfl, rfl, rfl, nd, rfl, by decide +kernel, by decide +kernel⟩ (fun _ _ _ _ _ _ us hl => match us, hl with | [_], _ => rfl) (fun vs H Q E h => ?_) (fun cdv A outer s H vs Q E hr h => ?_)
  · obtain ⟨a, dx, rfl, _⟩ := h
    rfl
  · obtain ⟨a, dx, rfl, ha, hq⟩ := h
    have cD := c.cls "Desk"
    have n_yard := c.noat "Desk" "yard"
    have n_board := c.noat "Desk" "board"
    refine ⟨_, PSs.nox (pss_cons (ps_fld (pv 0) pe_non rfl) (pss_one (ps_fld (pv 0) pe_non rfl))), ?_⟩
    refine ⟨_, rfl, a, _, dx, [], rfl, ha, cD, n_yard, (by show 0 < 1000; decide), ?_⟩
    refine ⟨_, rfl, a, _, dx, _, rfl, upd_same, cD, n_board, (by show 1 < 1000; decide), ?_⟩
    exact hq _ upd_same (fun x o e h => by rw [upd_ne h, upd_ne h]; exact e)
theorem gm_begun (c : Ct K mg) : Gm P w K mg base 3 "Desk" "begun" (spBegun K) := by
  have nd : (["self", "yard"] : List Str).Nodup := by decide +kernel
  refine gm_of (d := dDesk_begun) (N := ["self", "yard"]) (ps := ["self", "yard"]) (k := 2) c 66 rfl rfl rfl rfl ⟨rfl, rfl, rfl, nd, rfl, by decide +kernel, by decide +kernel⟩ (fun _ _ _ _ _ _ us hl => match us, hl with | [_, _], _ => rfl) (fun vs H Q E h => ?_) (fun cdv A outer s H vs Q E hr h => ?_)
  · obtain ⟨a, y, dx, u, v, Y, rfl, _⟩ := h
    rfl
  · obtain ⟨a, y, dx, u, v, Y, rfl, ha, hY, hok, hq⟩ := h
    have cD := c.cls "Desk"
    have n_yard := c.noat "Desk" "yard"
    have n_board := c.noat "Desk" "board"
    refine ⟨_, PSs.nox (pss_cons (ps_fld (pv 0) (pv 1) rfl) (pss_cons (ps_fld (pv 0) (pe_gk (gk_board c) hr passL (pa_cons (pv 1) (pa_nil))) rfl) (pss_one (ps_ret (pe_str))))), ?_⟩
    refine ⟨_, rfl, _, rfl, a, _, dx, _, rfl, ha, cD, n_yard, dk_small _ _, ?_⟩
    rw [dk_put_yard]
    have k1 : KeptA a H (upd H a (.ins (He.ga K "Desk") dx (dkf (.ref y) v))) := fun x o e h => by
      rw [upd_ne h]
      exact e
    have kY : ∀ {H1 H2 : Hp} {dz : Addr} {fs : List (Str × V)}, H1 a = some (.ins (He.ga K "Desk") dz fs) → KeptA a H1 H2 → YH H1 y Y → YH H2 y Y := fun h1 k h => h.keep (fun t xs e => k t _ e (ne_of e h1 (by intro z; cases z))) (fun t xs e => k t _ e (ne_of e h1 (by intro z; cases z)))
    have hY1 := kY ha k1 hY
    refine ⟨_, rfl, ?_⟩
    intro b ex nb nex nbe
    have s1 : Same (upd H a (.ins (He.ga K "Desk") dx (dkf (.ref y) v))) (upd (upd (upd H a (.ins (He.ga K "Desk") dx (dkf (.ref y) v))) ex (.own b)) b (.ins (He.ga K "Board") ex [])) := same_mut (same_new nex) nb
    refine ⟨b, y, ex, Y, rfl, upd_same, hY1.mono s1, hok, fun yb db H3 hB k3 ny nd => ?_⟩
    have ab : a ≠ b := ne_of_none upd_same nb
    have ha3 := k3 a _ (s1 a _ upd_same) ab
    refine ⟨rfl, _, rfl, a, _, dx, _, rfl, ha3, cD, n_board, dk_small _ _, ?_⟩
    rw [dk_put_board]
    have k4 : KeptA a H3 (upd H3 a (.ins (He.ga K "Desk") dx (dkf (.ref y) (.ref b)))) := fun x o e h => by
      rw [upd_ne h]
      exact e
    have hY3 : YH H3 y Y := (hY1.mono s1).keep (fun t xs e => k3 t _ e (ne_of e upd_same (by intro z; cases z))) (fun t xs e => k3 t _ e (ne_of e upd_same (by intro z; cases z)))
    obtain ⟨⟨dz, hb1⟩, hb2, kvs, hb3, hb4⟩ := hB
    refine hq b yb db _ ⟨⟨dx, upd_same⟩, kY ha3 k4 hY3, ⟨dz, k4 b _ hb1 ab.symm⟩, ?_, kvs, k4 db _ hb3 (ne_of hb3 ha3 (by intro z; cases z)), hb4.mono fun _ _ q => q.keep fun t xs e => k4 t _ e (ne_of e ha3 (by intro z; cases z))⟩ ?_
    · exact hb2.keep (fun t xs e => k4 t _ e (ne_of e ha3 (by intro z; cases z))) (fun t xs e => k4 t _ e (ne_of e ha3 (by intro z; cases z)))
    · intro x o e h
      have e1 := k1 x o e h
      have hxb : x ≠ b := ne_of_none e1 nb
      exact k4 x o (k3 x o (s1 x o e1) hxb) h
theorem gm_seen (c : Ct K mg) : Gm P w K mg base 8 "Desk" "seen" (spLook K) := by
  have nd : (["self", "row"] : List Str).Nodup := by decide +kernel
  refine gm_of (d := dDesk_seen) (N := ["self", "row"]) (ps := ["self", "row"]) (k := 7) c 67 rfl rfl rfl rfl ⟨rfl, rfl, rfl, nd, rfl, by decide +kernel, by decide +kernel⟩ (fun _ _ _ _ _ _ us hl => match us, hl with | [_, _], _ => rfl) (fun vs H Q E h => ?_) (fun cdv A outer s H vs Q E hr h => ?_)
  · obtain ⟨a, y, b, yb, db, B, k, rfl, _⟩ := h
    rfl
  · obtain ⟨a, y, b, yb, db, B, k, rfl, hD, hok, hq⟩ := h
    have cD := c.cls "Desk"
    have n_yard := c.noat "Desk" "yard"
    have n_board := c.noat "Desk" "board"
    refine ⟨_, PSs.nox (pss_cons (ps_if (pt_cmpR op_eq (pv 1) (pe_str) (nomark _)) (pss_one (ps_never)) (pss_nil)) (pss_cons (ps_if (pt_cmpR op_eq (pv 1) (pe_str) (nomark _)) (pss_one (ps_ret (pe_g (go_numbers c) hr passL (pa_cons (pe_g (go_members c) hr passL (pa_cons (pe_g (go_live c) hr passL (pa_cons (pe_fld (pv 0) rfl) (pa_cons (pe_gm0 (gm_standing c) hr passL (pe_fld (pv 0) rfl)) (pa_nil)))) (pa_nil))) (pa_nil))))) (pss_nil)) (pss_cons (ps_if (pt_cmpR op_eq (pv 1) (pe_str) (nomark _)) (pss_one (ps_ret (pe_g (go_numbers c) hr passL (pa_cons (pe_g (go_members c) hr passL (pa_cons (pe_g (go_earthed c) hr passL (pa_cons (pe_fld (pv 0) rfl) (pa_cons (pe_gm0 (gm_standing c) hr passL (pe_fld (pv 0) rfl)) (pa_nil)))) (pa_nil))) (pa_nil))))) (pss_nil)) (pss_cons (ps_if (pt_cmpR op_eq (pv 1) (pe_str) (nomark _)) (pss_one (ps_ret (pe_g (go_numbers c) hr passL (pa_cons (pe_g (go_members c) hr passL (pa_cons (pe_gm0 (gm_locked c) hr passL (pe_fld (pv 0) rfl)) (pa_nil))) (pa_nil))))) (pss_nil)) (pss_cons (ps_if (pt_cmpR op_ne (pv 1) (pe_str) (nomark _)) (pss_one (ps_never)) (pss_nil)) (pss_one (ps_ret (pe_g (go_numbers c) hr passL (pa_cons (pe_g (go_members c) hr passL (pa_cons (pe_gm0 (gm_standing c) hr passL (pe_fld (pv 0) rfl)) (pa_nil))) (pa_nil)))))))))), ?_⟩
    obtain ⟨dx, ha⟩ := hD.ob
    obtain ⟨ex, hb⟩ := hD.bd.ob
    have no1 : (bf yb B.sh B.lk db B.last).lookup ("standing" : Str) = none := bf_no _ _ _ _ _ (by decide +kernel) (by decide +kernel) (by decide +kernel) (by decide +kernel) (by decide +kernel)
    have no2 : (bf yb B.sh B.lk db B.last).lookup ("locked" : Str) = none := bf_no _ _ _ _ _ (by decide +kernel) (by decide +kernel) (by decide +kernel) (by decide +kernel) (by decide +kernel)
    have l1 : liveN B.Y B.sh < 4096 := Nat.lt_of_lt_of_le (liveN_lt hok.y _) (Nat.le_trans (pow_1024 hok.y) (by decide))
    have l2 : earthN B.Y B.sh < 4096 := Nat.lt_of_lt_of_le (earthN_lt hok.y _) (Nat.le_trans (pow_1024 hok.y) (by decide))
    cases k with
    | live =>
      refine ⟨_, rfl, rfl, _, rfl, ifd_f (stf (by decide +kernel)) ⟨_, rfl, rfl, _, rfl, ifd_t rfl ?_⟩⟩
      refine ⟨_, rfl, a, _, dx, _, _, rfl, ha, cD, n_yard, dk_yard _ _, _, rfl, a, _, dx, _, _, rfl, ha, cD, n_board, dk_board _ _, b, ex, _, rfl, hb, no1, b, yb, db, B, rfl, hD.bd, ?_⟩
      refine ⟨y, B.Y, B.sh, rfl, hD.yd, hok.y, fun H1 s1 => ⟨_, rfl, l1, fun p H2 s2 np hp => ⟨p, _, rfl, hp, bitsTo_len _ _, bits_lt, fun H3 s3 => hq H3 ((s1.trans s2).trans s3)⟩⟩⟩
    | earthed =>
      refine ⟨_, rfl, rfl, _, rfl, ifd_f (stf (by decide +kernel)) ⟨_, rfl, rfl, _, rfl, ifd_f (stf (by decide +kernel)) ⟨_, rfl, rfl, _, rfl, ifd_t rfl ?_⟩⟩⟩
      refine ⟨_, rfl, a, _, dx, _, _, rfl, ha, cD, n_yard, dk_yard _ _, _, rfl, a, _, dx, _, _, rfl, ha, cD, n_board, dk_board _ _, b, ex, _, rfl, hb, no1, b, yb, db, B, rfl, hD.bd, ?_⟩
      refine ⟨y, B.Y, B.sh, rfl, hD.yd, hok.y, fun H1 s1 => ⟨_, rfl, l2, fun p H2 s2 np hp => ⟨p, _, rfl, hp, bitsTo_len _ _, bits_lt, fun H3 s3 => hq H3 ((s1.trans s2).trans s3)⟩⟩⟩
    | locked =>
      refine ⟨_, rfl, rfl, _, rfl, ifd_f (stf (by decide +kernel)) ⟨_, rfl, rfl, _, rfl, ifd_f (stf (by decide +kernel)) ⟨_, rfl, rfl, _, rfl, ifd_f (stf (by decide +kernel)) ⟨_, rfl, rfl, _, rfl, ifd_t rfl ?_⟩⟩⟩⟩
      refine ⟨_, rfl, a, _, dx, _, _, rfl, ha, cD, n_board, dk_board _ _, b, ex, _, rfl, hb, no2, b, yb, db, B, rfl, hD.bd, ?_⟩
      exact ⟨_, rfl, hok.lk, fun p H2 s2 np hp => ⟨p, _, rfl, hp, bitsTo_len _ _, bits_lt, fun H3 s3 => hq H3 (s2.trans s3)⟩⟩
    | shut =>
      refine ⟨_, rfl, rfl, _, rfl, ifd_f (stf (by decide +kernel)) ⟨_, rfl, rfl, _, rfl, ifd_f (stf (by decide +kernel)) ⟨_, rfl, rfl, _, rfl, ifd_f (stf (by decide +kernel)) ⟨_, rfl, rfl, _, rfl, ifd_f (stf (by decide +kernel)) ⟨_, rfl, rfl, _, rfl, ifnd_f rfl ?_⟩⟩⟩⟩⟩
      refine ⟨_, rfl, a, _, dx, _, _, rfl, ha, cD, n_board, dk_board _ _, b, ex, _, rfl, hb, no1, b, yb, db, B, rfl, hD.bd, ?_⟩
      exact ⟨_, rfl, hok.sh, fun p H2 s2 np hp => ⟨p, _, rfl, hp, bitsTo_len _ _, bits_lt, fun H3 s3 => hq H3 (s2.trans s3)⟩⟩
end
end K38
namespace K38
open PySem PySem.Spec PyProof.Rows L2
/-! ### deeds -/
inductive Dd where
  | turn (n : Nat) | lock (n : Nat) | unlock (n : Nat) | back (n : Nat) | permit (n : Nat)
def Dd.word : Dd → Str
  | .turn _ => "turn"
  | .lock _ => "lock"
  | .unlock _ => "unlock"
  | .back _ => "back"
  | .permit _ => "permit"
def Dd.num : Dd → Nat
  | .turn n => n
  | .lock n => n
  | .unlock n => n
  | .back n => n
  | .permit n => n
def Dd.op (B : Bd) : Dd → Except Str Bd
  | .turn n => turnB B n
  | .lock n => lockB B n
  | .unlock n => unlockB B n
  | .back n => backB B n
  | .permit n => permitB B n
def Dd.ans (B : Bd) : Dd → Str
  | .turn n => if B.sh.testBit n = true then "shut" else "open"
  | .permit _ => "permit " ++ tN B.last
  | _ => "ok"
def Dd.isP : Dd → Bool
  | .permit _ => true
  | _ => false
def Dd.words : Dd → List Str
  | .permit n => "permit" :: (bitsTo n 10).map tN
  | .turn n => ["turn", tN n]
  | .lock n => ["lock", tN n]
  | .unlock n => ["unlock", tN n]
  | .back n => ["back", tN n]
def Dd.fine (B : Bd) : Dd → Prop
  | .permit n => 1 ≤ n ∧ n < 2 ^ B.Y.1 ∧ B.Y.1 ≤ 5 ∧ B.last ≤ 100000
  | .turn n => n < 10 ^ 9
  | .lock n => n < 10 ^ 9
  | .unlock n => n < 10 ^ 9
  | .back n => n < 10 ^ 9
theorem Res.go {K : PySem.W.Frag} {H H1 : Hp} {b y d : Addr} {Q Q' : VK} {E : XK} {val val' : Bd → V} {r : Except Str Bd} (h : Res K H b y d Q E val r) (s : Same H H1)
    (f : ∀ B' H', r = .ok B' → BAt K H' b y d B' → Kept b d H H' → Kept b d H1 H' → Q (val B') H' → Q' (val' B') H') : Res K H1 b y d Q' E val' r := by
  cases r with
  | error x => exact fun H' s' => h H' (s.trans s')
  | ok B' => exact fun H' hB k => f B' H' rfl hB ((Same.kept s).trans k) k (h H' hB ((Same.kept s).trans k))
theorem bits_sum : ∀ n : Fin 32, ((bitsTo n.1 10).map (2 ^ ·)).sum = n.1 := by decide +kernel
theorem bits_ne : ∀ n : Fin 32, 1 ≤ n.1 → bitsTo n.1 10 ≠ [] := by decide +kernel
theorem bits_pw (n k : Nat) : (bitsTo n k).Pairwise (· < ·) := List.Pairwise.filter _ List.pairwise_lt_range
theorem bits_below {n m k : Nat} (h : n < 2 ^ m) : ∀ b ∈ bitsTo n k, b < m := fun b hb => by
  have h1 := (List.mem_filter.mp hb).2
  rcases Nat.lt_or_ge b m with q | q
  · exact q
  · rw [Nat.testBit_lt_two_pow (Nat.lt_of_lt_of_le h (Nat.pow_le_pow_right (by decide) q))] at h1
    cases h1
theorem kne (x y : Str) (h : ¬ x = y := by decide +kernel) : ¬ V.str x = V.str y := stf h
def spDeed (K : PySem.W.Frag) : Sp := fun vs H Q E => ∃ (a y b yb db : Addr) (B : Bd) (q : Dd), vs = [.ref a, .str q.word, vN q.num] ∧ DkAt K H a y b yb db B ∧ BOk B ∧ q.isP = false ∧ Res K H b yb db Q E (fun B' => .str (q.ans B')) (q.op B)
def spDone (K : PySem.W.Frag) : Sp := fun vs H Q E => ∃ (a y b yb db p : Addr) (B : Bd) (q : Dd), vs = [.ref a, .ref p] ∧ H p = some (.lst (q.words.map V.str)) ∧ DkAt K H a y b yb db B ∧ BOk B ∧ q.fine B ∧ Res K H b yb db Q E (fun B' => .str (q.ans B')) (q.op B)
section
variable {P : Program} {w : World} {K : PySem.W.Frag} {mg : Str → Option Value} {base : Heap}
theorem gm_deed (c : Ct K mg) : Gm P w K mg base 11 "Desk" "deed" (spDeed K) := by
  have nd : (["self", "word", "number"] : List Str).Nodup := by decide +kernel
  refine gm_of (d := dDesk_deed) (N := ["self", "word", "number"]) (ps := ["self", "word", "number"]) (k := 10) c 69 rfl rfl rfl rfl ⟨rfl, rfl, rfl, nd, rfl, by decide +kernel, by decide +kernel⟩ (fun _ _ _ _ _ _ us hl => match us, hl with | [_, _, _], _ => rfl) (fun vs H Q E h => ?_) (fun cdv A outer s H vs Q E hr h => ?_)
  · obtain ⟨a, y, b, yb, db, B, q, rfl, _⟩ := h
    rfl
  · obtain ⟨a, y, b, yb, db, B, q, rfl, hD, hok, hp, hq⟩ := h
    have cD := c.cls "Desk"
    have n_board := c.noat "Desk" "board"
    refine ⟨_, pss_cons (ps_if (pt_cmpR op_eq (pv 1) (pe_str) (nomark _)) (pss_one (ps_ret (pe_ix ix_list (pe_lst (pa_cons (pe_str) (pa_cons (pe_str) (pa_nil)))) (pe_bit (pe_gm (gm_turn c) hr passE (pe_fld (pv 0) rfl) (pa_cons (pv 2) (pa_nil))) (pv 2)) (fun _ _ => rfl)))) (pss_nil)) (pss_cons (ps_if (pt_cmpR op_eq (pv 1) (pe_str) (nomark _)) (pss_one (ps_expr (pe_gm (gm_lock c) hr passE (pe_fld (pv 0) rfl) (pa_cons (pv 2) (pa_nil))))) (pss_one (ps_if (pt_cmpR op_eq (pv 1) (pe_str) (nomark _)) (pss_one (ps_expr (pe_gm (gm_unlock c) hr passE (pe_fld (pv 0) rfl) (pa_cons (pv 2) (pa_nil))))) (pss_one (ps_expr (pe_gm (gm_back c) hr passE (pe_fld (pv 0) rfl) (pa_cons (pv 2) (pa_nil)))))))) (pss_one (ps_ret (pe_str)))), ?_⟩
    obtain ⟨dx, ha⟩ := hD.ob
    obtain ⟨ex, hb⟩ := hD.bd.ob
    have no : ∀ {m : Str}, ¬ m = "yard" → ¬ m = "shut_ones" → ¬ m = "locks" → ¬ m = "given" → ¬ m = "last" → (bf yb B.sh B.lk db B.last).lookup m = none := fun h1 h2 h3 h4 h5 => bf_no _ _ _ _ _ h1 h2 h3 h4 h5
    cases q with
    | turn n =>
      refine ⟨_, rfl, rfl, _, rfl, ifd_t rfl ⟨by show 2 ≤ sizeLine; decide, fun l nl => ?_⟩⟩
      have sl := same_new (o := .lst [.str "open", .str "shut"]) nl
      refine ⟨_, rfl, a, _, dx, _, _, rfl, sl a _ ha, cD, n_board, dk_board _ _, b, ex, _, rfl, sl b _ hb, no (by decide +kernel) (by decide +kernel) (by decide +kernel) (by decide +kernel) (by decide +kernel), _, rfl, b, yb, db, B, n, rfl, hD.bd.mono sl, hok, ?_⟩
      refine hq.go sl fun B' H' e hB k k1 hh => ⟨_, rfl, B'.sh, n, rfl, rfl, ?_⟩
      obtain ⟨kvs, hdb, _⟩ := hD.bd.dc
      have hl : H' l = some (.lst [.str "open", .str "shut"]) := k1 l _ upd_same (ne_of_none hb nl).symm (ne_of_none hdb nl).symm
      have hh2 : Q (.str (if B'.sh.testBit n = true then "shut" else "open")) H' := hh
      cases ht : B'.sh.testBit n with
      | true =>
        rw [ht, if_pos rfl] at hh2
        exact ⟨l, _, 1, _, rfl, rfl, SqL.of hl, rfl, hh2⟩
      | false =>
        rw [ht, if_neg Bool.false_ne_true] at hh2
        exact ⟨l, _, 0, _, rfl, rfl, SqL.of hl, rfl, hh2⟩
    | lock n =>
      refine ⟨_, rfl, rfl, _, rfl, ifd_f (kne "lock" "turn") ⟨_, rfl, rfl, _, rfl, ifd_t rfl ?_⟩⟩
      refine ⟨_, rfl, a, _, dx, _, _, rfl, ha, cD, n_board, dk_board _ _, b, ex, _, rfl, hb, no (by decide +kernel) (by decide +kernel) (by decide +kernel) (by decide +kernel) (by decide +kernel), _, rfl, b, yb, db, B, n, rfl, hD.bd, hok, ?_⟩
      exact hq.go (Same.refl H) fun B' H' e hB k k1 hh => hh
    | unlock n =>
      refine ⟨_, rfl, rfl, _, rfl, ifd_f (kne "unlock" "turn") ⟨_, rfl, rfl, _, rfl, ifd_f (kne "unlock" "lock") ⟨_, rfl, rfl, _, rfl, ifd_t rfl ?_⟩⟩⟩
      refine ⟨_, rfl, a, _, dx, _, _, rfl, ha, cD, n_board, dk_board _ _, b, ex, _, rfl, hb, no (by decide +kernel) (by decide +kernel) (by decide +kernel) (by decide +kernel) (by decide +kernel), _, rfl, b, yb, db, B, n, rfl, hD.bd, hok, ?_⟩
      exact hq.go (Same.refl H) fun B' H' e hB k k1 hh => hh
    | back n =>
      refine ⟨_, rfl, rfl, _, rfl, ifd_f (kne "back" "turn") ⟨_, rfl, rfl, _, rfl, ifd_f (kne "back" "lock") ⟨_, rfl, rfl, _, rfl, ifd_f (kne "back" "unlock") ?_⟩⟩⟩
      refine ⟨_, rfl, a, _, dx, _, _, rfl, ha, cD, n_board, dk_board _ _, b, ex, _, rfl, hb, no (by decide +kernel) (by decide +kernel) (by decide +kernel) (by decide +kernel) (by decide +kernel), _, rfl, b, yb, db, B, n, rfl, hD.bd, hok, ?_⟩
      exact hq.go (Same.refl H) fun B' H' e hB k k1 hh => hh
    | permit n => cases hp
end
end K38
namespace K38
open PySem PySem.Spec PyProof.Rows L2
/-! ### a desk's row -/
theorem wdk (x : Str) (h : wdB x = true := by decide +kernel) : Wd x := wd_of h
theorem two_wd {x : Str} {n : Nat} (h : Wd x) (hn : n < 10 ^ 9) : ∀ w ∈ ([x, tN n] : List Str), Wd w := by
  intro w hw
  rcases List.mem_cons.mp hw with rfl | hw
  · exact h
  · rcases List.mem_cons.mp hw with rfl | hw
    · exact wd_num hn
    · cases hw
theorem pow5 {n m : Nat} (h : n < 2 ^ m) (hm : m ≤ 5) : n < 32 := Nat.lt_of_lt_of_le h (Nat.pow_le_pow_right (by decide) hm)
theorem Dd.wds {B : Bd} {q : Dd} (h : q.fine B) : ∀ w ∈ q.words, Wd w := by
  cases q with
  | turn n => exact two_wd (wdk "turn") h
  | lock n => exact two_wd (wdk "lock") h
  | unlock n => exact two_wd (wdk "unlock") h
  | back n => exact two_wd (wdk "back") h
  | permit n =>
    intro w hw
    rcases List.mem_cons.mp hw with rfl | hw
    · exact wdk "permit"
    · obtain ⟨b, hb, rfl⟩ := List.mem_map.mp hw
      exact wd_num (Nat.lt_of_lt_of_le (bits_below (m := 5) (k := 10) (pow5 h.2.1 h.2.2.1) b hb) (by decide))
theorem Dd.len {B : Bd} {q : Dd} (h : q.fine B) : 2 ≤ q.words.length ∧ q.words.length ≤ 11 := by
  cases q with
  | turn n => exact ⟨Nat.le_refl 2, by show 2 ≤ 11; decide⟩
  | lock n => exact ⟨Nat.le_refl 2, by show 2 ≤ 11; decide⟩
  | unlock n => exact ⟨Nat.le_refl 2, by show 2 ≤ 11; decide⟩
  | back n => exact ⟨Nat.le_refl 2, by show 2 ≤ 11; decide⟩
  | permit n =>
    have h1 := bits_ne ⟨n, pow5 h.2.1 h.2.2.1⟩ h.1
    have h2 := List.length_pos_iff.mpr h1
    have h3 := bitsTo_len n 10
    show 2 ≤ ((bitsTo n 10).map tN).length + 1 ∧ ((bitsTo n 10).map tN).length + 1 ≤ 11
    rw [List.length_map]
    simp only at h2
    omega
theorem Dd.head (q : Dd) : ∃ r, q.words = q.word :: r := by cases q <;> exact ⟨_, rfl⟩
theorem dd_ends : endsN "turn" = 0 ∧ endsN "lock" = 0 ∧ endsN "unlock" = 0 ∧ endsN "back" = 0 ∧ endsN "permit" = 0 := by decide +kernel
theorem Dd.ends (q : Dd) : endsN q.word = 0 := by
  cases q with
  | turn n => exact dd_ends.1
  | lock n => exact dd_ends.2.1
  | unlock n => exact dd_ends.2.2.1
  | back n => exact dd_ends.2.2.2.1
  | permit n => exact dd_ends.2.2.2.2
theorem Dd.nbars (q : Dd) : ¬ V.str q.word = V.str "bars" := by
  cases q with
  | turn n => exact kne "turn" "bars"
  | lock n => exact kne "lock" "bars"
  | unlock n => exact kne "unlock" "bars"
  | back n => exact kne "back" "bars"
  | permit n => exact kne "permit" "bars"
theorem inDeeds : inV (.str "turn") [.str "turn", .str "lock", .str "unlock", .str "back"] = true ∧ inV (.str "lock") [.str "turn", .str "lock", .str "unlock", .str "back"] = true ∧ inV (.str "unlock") [.str "turn", .str "lock", .str "unlock", .str "back"] = true ∧ inV (.str "back") [.str "turn", .str "lock", .str "unlock", .str "back"] = true := by decide +kernel
section
variable {P : Program} {w : World} {K : PySem.W.Frag} {mg : Str → Option Value} {base : Heap}
theorem gm_done (c : Ct K mg) : Gm P w K mg base 12 "Desk" "done" (spDone K) := by
  have nd : (["self", "words"] : List Str).Nodup := by decide +kernel
  refine gm_of (d := dDesk_done) (N := ["self", "words"]) (ps := ["self", "words"]) (k := 11) c 68 rfl rfl rfl rfl ⟨rfl, rfl, rfl, nd, rfl, by decide +kernel, by decide +kernel⟩ (fun _ _ _ _ _ _ us hl => match us, hl with | [_, _], _ => rfl) (fun vs H Q E h => ?_) (fun cdv A outer s H vs Q E hr h => ?_)
  · obtain ⟨a, y, b, yb, db, p, B, q, rfl, _⟩ := h
    rfl
  · obtain ⟨a, y, b, yb, db, p, B, q, rfl, hp, hD, hok, hf, hq⟩ := h
    have cD := c.cls "Desk"
    have n_yard := c.noat "Desk" "yard"
    have n_board := c.noat "Desk" "board"
    refine ⟨_, pss_cons (ps_if (pt_cmpR op_eq (pe_ix ix_list (pv 1) (pe_int) (fun _ _ => rfl)) (pe_str) (nomark _)) (pss_one (ps_ret (pe_op op_add_str (pe_str) (pe_callTy call_str_int (by rfl) (c.free "str") (by decide +kernel) (pa_cons (pe_gm (gm_permit c) hr passE (pe_fld (pv 0) rfl) (pa_cons (pe_g (go_place c) hr passL (pa_cons (pe_fld (pv 0) rfl) (pa_cons (pe_slice sl_list (pv 1) (po_some (pe_int)) (po_none)) (pa_nil)))) (pa_nil))) (pa_nil)))))) (pss_nil)) (pss_cons (ps_if (pt_cmpR op_eq (pe_ix ix_list (pv 1) (pe_int) (fun _ _ => rfl)) (pe_str) (nomark _)) (pss_one (ps_never)) (pss_nil)) (pss_cons (ps_if (PW.pt (pw_and (pt_cmpR op_eq (pe_ix ix_list (pv 1) (pe_int) (fun _ _ => rfl)) (pe_str) (nomark _)) (pw_and1 (pt_cmpR op_eq (pe_callB call_len_seq (by rfl) (c.free "len") PySem.boot_len (pa_cons (pv 1) pa_nil)) (pe_int) (nomark _))))) (pss_one (ps_never)) (pss_nil)) (pss_cons (ps_if (PW.pt (pw_or (pt_cmpR op_notIn_seq (pe_ix ix_list (pv 1) (pe_int) (fun _ _ => rfl)) (pe_glob (v := .ref (He.ga K "DEEDS")) rfl (c.glo "DEEDS") rfl) (by rfl)) (pw_or1 (pt_cmpR op_ne (pe_callB call_len_seq (by rfl) (c.free "len") PySem.boot_len (pa_cons (pv 1) pa_nil)) (pe_int) (nomark _))))) (pss_one (ps_never)) (pss_nil)) (pss_one (ps_ret (pe_gm (gm_deed c) hr passE (pv 0) (pa_cons (pe_ix ix_list (pv 1) (pe_int) (fun _ _ => rfl)) (pa_cons (pe_g (go_number c) hr passL (pa_cons (pe_ix ix_list (pv 1) (pe_int) (fun _ _ => rfl)) (pa_nil))) (pa_nil))))))))), ?_⟩
    obtain ⟨dx, ha⟩ := hD.ob
    obtain ⟨ex, hb⟩ := hD.bd.ob
    cases q with
    | turn n =>
      have hp2 : H p = some (.lst [.str "turn", .str (tN n)]) := hp
      refine ⟨_, rfl, p, _, 0, _, rfl, rfl, SqL.of hp2, rfl, rfl, _, rfl, ifd_f (kne "turn" "permit") ⟨_, rfl, p, _, 0, _, rfl, rfl, SqL.of hp2, rfl, rfl, _, rfl, ifd_f (kne "turn" "locks") ⟨_, rfl, p, _, 0, _, rfl, rfl, SqL.of hp2, rfl, rfl, _, rfl, ifd_f (kne "turn" "reach") ?_⟩⟩⟩
      refine iteF ⟨_, rfl, p, _, 0, _, rfl, rfl, SqL.of hp2, rfl, _, _, rfl, .inr (c.deeds H), rfl, rfl, _, rfl, ifF (by decide +kernel) ⟨_, rfl, p, _, rfl, .inl (SqL.of hp2), rfl, _, rfl, ifnd_f rfl ?_⟩⟩
      exact ⟨_, rfl, a, dx, _, rfl, ha, dk_no _ _ (by decide +kernel) (by decide +kernel), _, rfl, p, _, 0, _, rfl, rfl, SqL.of hp2, rfl, _, rfl, p, _, 1, _, rfl, rfl, SqL.of hp2, rfl, n, rfl, hf, a, y, b, yb, db, B, .turn n, rfl, hD, hok, rfl, hq⟩
    | lock n =>
      have hp2 : H p = some (.lst [.str "lock", .str (tN n)]) := hp
      refine ⟨_, rfl, p, _, 0, _, rfl, rfl, SqL.of hp2, rfl, rfl, _, rfl, ifd_f (kne "lock" "permit") ⟨_, rfl, p, _, 0, _, rfl, rfl, SqL.of hp2, rfl, rfl, _, rfl, ifd_f (kne "lock" "locks") ⟨_, rfl, p, _, 0, _, rfl, rfl, SqL.of hp2, rfl, rfl, _, rfl, ifd_f (kne "lock" "reach") ?_⟩⟩⟩
      refine iteF ⟨_, rfl, p, _, 0, _, rfl, rfl, SqL.of hp2, rfl, _, _, rfl, .inr (c.deeds H), rfl, rfl, _, rfl, ifF (by decide +kernel) ⟨_, rfl, p, _, rfl, .inl (SqL.of hp2), rfl, _, rfl, ifnd_f rfl ?_⟩⟩
      exact ⟨_, rfl, a, dx, _, rfl, ha, dk_no _ _ (by decide +kernel) (by decide +kernel), _, rfl, p, _, 0, _, rfl, rfl, SqL.of hp2, rfl, _, rfl, p, _, 1, _, rfl, rfl, SqL.of hp2, rfl, n, rfl, hf, a, y, b, yb, db, B, .lock n, rfl, hD, hok, rfl, hq⟩
    | unlock n =>
      have hp2 : H p = some (.lst [.str "unlock", .str (tN n)]) := hp
      refine ⟨_, rfl, p, _, 0, _, rfl, rfl, SqL.of hp2, rfl, rfl, _, rfl, ifd_f (kne "unlock" "permit") ⟨_, rfl, p, _, 0, _, rfl, rfl, SqL.of hp2, rfl, rfl, _, rfl, ifd_f (kne "unlock" "locks") ⟨_, rfl, p, _, 0, _, rfl, rfl, SqL.of hp2, rfl, rfl, _, rfl, ifd_f (kne "unlock" "reach") ?_⟩⟩⟩
      refine iteF ⟨_, rfl, p, _, 0, _, rfl, rfl, SqL.of hp2, rfl, _, _, rfl, .inr (c.deeds H), rfl, rfl, _, rfl, ifF (by decide +kernel) ⟨_, rfl, p, _, rfl, .inl (SqL.of hp2), rfl, _, rfl, ifnd_f rfl ?_⟩⟩
      exact ⟨_, rfl, a, dx, _, rfl, ha, dk_no _ _ (by decide +kernel) (by decide +kernel), _, rfl, p, _, 0, _, rfl, rfl, SqL.of hp2, rfl, _, rfl, p, _, 1, _, rfl, rfl, SqL.of hp2, rfl, n, rfl, hf, a, y, b, yb, db, B, .unlock n, rfl, hD, hok, rfl, hq⟩
    | back n =>
      have hp2 : H p = some (.lst [.str "back", .str (tN n)]) := hp
      refine ⟨_, rfl, p, _, 0, _, rfl, rfl, SqL.of hp2, rfl, rfl, _, rfl, ifd_f (kne "back" "permit") ⟨_, rfl, p, _, 0, _, rfl, rfl, SqL.of hp2, rfl, rfl, _, rfl, ifd_f (kne "back" "locks") ⟨_, rfl, p, _, 0, _, rfl, rfl, SqL.of hp2, rfl, rfl, _, rfl, ifd_f (kne "back" "reach") ?_⟩⟩⟩
      refine iteF ⟨_, rfl, p, _, 0, _, rfl, rfl, SqL.of hp2, rfl, _, _, rfl, .inr (c.deeds H), rfl, rfl, _, rfl, ifF (by decide +kernel) ⟨_, rfl, p, _, rfl, .inl (SqL.of hp2), rfl, _, rfl, ifnd_f rfl ?_⟩⟩
      exact ⟨_, rfl, a, dx, _, rfl, ha, dk_no _ _ (by decide +kernel) (by decide +kernel), _, rfl, p, _, 0, _, rfl, rfl, SqL.of hp2, rfl, _, rfl, p, _, 1, _, rfl, rfl, SqL.of hp2, rfl, n, rfl, hf, a, y, b, yb, db, B, .back n, rfl, hD, hok, rfl, hq⟩
    | permit n =>
      obtain ⟨f1, f2, f3, f4⟩ := hf
      have h32 := pow5 f2 f3
      have hp2 : H p = some (.lst (.str "permit" :: (bitsTo n 10).map fun b => .str (tN b))) := by
        have z : H p = some (.lst (.str "permit" :: ((bitsTo n 10).map tN).map V.str)) := hp
        rw [List.map_map] at z
        exact z
      have hsum : ((bitsTo n 10).map (2 ^ ·)).sum = n := bits_sum ⟨n, h32⟩
      refine ⟨_, rfl, p, _, 0, _, rfl, rfl, SqL.of hp2, atI_nat (j := 0) rfl, rfl, _, rfl, ifd_t rfl ?_⟩
      refine ⟨_, rfl, a, _, dx, _, _, rfl, ha, cD, n_board, dk_board _ _, b, ex, _, rfl, hb, bf_no _ _ _ _ _ (by decide +kernel) (by decide +kernel) (by decide +kernel) (by decide +kernel) (by decide +kernel), ?_⟩
      refine ⟨_, rfl, a, _, dx, _, _, rfl, ha, cD, n_yard, dk_yard _ _, _, rfl, _, rfl, p, _, rfl, SqL.of hp2, fun r nr => ?_⟩
      rw [cut_tail]
      have sr := same_new (o := .lst ((bitsTo n 10).map fun b => .str (tN b))) nr
      refine ⟨y, r, B.Y, bitsTo n 10, rfl, hD.yd.mono sr, upd_same, hok.y.n, bits_ne ⟨n, h32⟩ f1, bitsTo_len _ _, bits_below f2, bits_pw _ _, fun H1 s1 => ?_⟩
      rw [hsum]
      refine ⟨b, yb, db, B, n, rfl, (hD.bd.mono sr).mono s1, hok, ⟨f1, f2, f4⟩, ?_⟩
      refine hq.go (sr.trans s1) fun B' H' e hB k k1 hh => ?_
      have hl := (permitB_ok hok e).2.2
      have h9 : B'.last < 10 ^ 9 := by
        rw [hl]
        exact Nat.lt_of_le_of_lt (Nat.succ_le_succ f4) (by decide)
      refine ⟨_, rfl, log_small h9, _, _, rfl, rfl, ?_, ?_⟩
      · rw [tN_eq]
        have := tN_len h9
        exact Nat.le_trans (Nat.add_le_add_left this _) (by decide +kernel)
      · rw [tN_eq]
        exact hh
/-- what a desk answers -/
def SayBars (K : PySem.W.Frag) (vs : List V) (H : Hp) (Q : VK) : Prop := ∃ (a dx : Addr) (u v : V) (n : Nat), vs = [.ref a, .str (rowOf ["bars", tN n])] ∧ H a = some (.ins (He.ga K "Desk") dx (dkf u v)) ∧ 1 ≤ n ∧ n ≤ 10 ∧
  ∀ (y b yb db : Addr) (H' : Hp), DkAt K H' a y b yb db ⟨(n, []), 0, 0, [], 0⟩ → KeptA a H H' → Q (.str "ok") H'
def SaySw (K : PySem.W.Frag) (vs : List V) (H : Hp) (Q : VK) : Prop := ∃ (a y b yb db : Addr) (B : Bd) (sw : Sw), vs = [.ref a, .str (rowOf sw.words)] ∧ DkAt K H a y b yb db B ∧ YOk B.Y ∧ B.Y.2.length < 12 ∧ sw.ok B.Y.1 ∧
  ∀ (y b yb db : Addr) (H' : Hp), DkAt K H' a y b yb db ⟨(B.Y.1, B.Y.2 ++ [sw]), 0, 0, [], 0⟩ → KeptA a H H' → Q (.str "ok") H'
def SayLook (K : PySem.W.Frag) (vs : List V) (H : Hp) (Q : VK) : Prop := ∃ (a y b yb db : Addr) (B : Bd) (k : Lk), vs = [.ref a, .str k.word] ∧ DkAt K H a y b yb db B ∧ BOk B ∧ ∀ H' : Hp, Same H H' → Q (.str (numT (bitsOf (k.val B)))) H'
def SayDeed (K : PySem.W.Frag) (vs : List V) (H : Hp) (Q : VK) (E : XK) : Prop := ∃ (a y b yb db : Addr) (B : Bd) (q : Dd), vs = [.ref a, .str (rowOf q.words)] ∧ DkAt K H a y b yb db B ∧ BOk B ∧ q.fine B ∧ Res K H b yb db Q E (fun B' => .str (q.ans B')) (q.op B)
def spSay (K : PySem.W.Frag) : Sp := fun vs H Q E => SayBars K vs H Q ∨ SaySw K vs H Q ∨ SayLook K vs H Q ∨ SayDeed K vs H Q E
theorem Lk.row (k : Lk) : k.word = rowOf [k.word] := by
  unfold rowOf
  rw [TL.join_eq]
  refine TL.ext_tl ?_
  rw [TL.tl_join]
  rfl
theorem lk_facts : (endsN "live" = 0 ∧ endsN "earthed" = 0 ∧ endsN "locked" = 0 ∧ endsN "shut" = 0) ∧ wdB "live" = true ∧ wdB "earthed" = true ∧ wdB "locked" = true ∧ wdB "shut" = true := by decide +kernel
theorem Lk.wd (k : Lk) : Wd k.word := by
  cases k
  · exact wd_of lk_facts.2.1
  · exact wd_of lk_facts.2.2.1
  · exact wd_of lk_facts.2.2.2.1
  · exact wd_of lk_facts.2.2.2.2
theorem Lk.ends (k : Lk) : endsN k.word = 0 := by
  cases k
  · exact lk_facts.1.1
  · exact lk_facts.1.2.1
  · exact lk_facts.1.2.2.1
  · exact lk_facts.1.2.2.2
theorem Lk.nbars (k : Lk) : ¬ V.str k.word = V.str "bars" := by
  cases k
  · exact kne "live" "bars"
  · exact kne "earthed" "bars"
  · exact kne "locked" "bars"
  · exact kne "shut" "bars"
theorem Sw.nbars (sw : Sw) : ¬ V.str sw.kind = V.str "bars" := by
  cases sw
  · exact kne "feed" "bars"
  · exact kne "earth" "bars"
  · exact kne "breaker" "bars"
  · exact kne "splitter" "bars"
theorem gm_say (c : Ct K mg) : Gm P w K mg base 13 "Desk" "say" (spSay K) := by
  have nd : (["self", "row", "words"] : List Str).Nodup := by decide +kernel
  refine gm_of (d := dDesk_say) (N := ["self", "row", "words"]) (ps := ["self", "row"]) (k := 12) c 65 rfl rfl rfl rfl ⟨rfl, rfl, rfl, nd, rfl, by decide +kernel, by decide +kernel⟩ (fun _ _ _ _ _ _ us hl => match us, hl with | [_, _], _ => rfl) (fun vs H Q E h => ?_) (fun cdv A outer s H vs Q E hr h => ?_)
  · obtain (⟨_, _, _, _, _, rfl, _⟩ | ⟨_, _, _, _, _, _, _, rfl, _⟩ | ⟨_, _, _, _, _, _, _, rfl, _⟩ | ⟨_, _, _, _, _, _, _, rfl, _⟩) := h
    all_goals rfl
  · have cD := c.cls "Desk"
    have n_yard := c.noat "Desk" "yard"
    refine ⟨_, pss_cons (ps_set (i := 2) nd rfl (Or.inl rfl) (pe_split (pv 1) pe_str)) (pss_cons (ps_if (pt_cmpR op_eq (pe_ix ix_list (pv 2) (pe_int) (fun _ _ => rfl)) (pe_str) (nomark _)) (pss_one (ps_ret (pe_gm (gm_begun c) hr passL (pv 0) (pa_cons (pe_tup (pa_cons (pe_g (go_count_told c) hr passL (pa_cons (pv 1) (pa_nil))) (pa_cons (pe_lst (pa_nil)) (pa_nil)))) (pa_nil))))) (pss_nil)) (pss_cons (ps_if (pt_cmpR op_isN (pe_fld (pv 0) rfl) pe_non (nomark _)) (pss_one (ps_never)) (pss_nil)) (pss_cons (ps_if (pt_cmpR op_gt (pe_g (go_ends c) hr passL (pa_cons (pe_ix ix_list (pv 2) (pe_int) (fun _ _ => rfl)) (pa_nil))) (pe_int) (nomark _)) (pss_one (ps_ret (pe_gm (gm_begun c) hr passL (pv 0) (pa_cons (pe_g (go_with c) hr passL (pa_cons (pe_fld (pv 0) rfl) (pa_cons (pv 1) (pa_nil)))) (pa_nil))))) (pss_nil)) (pss_cons (ps_if (pt_cmpR op_eq (pe_callB call_len_seq (by rfl) (c.free "len") PySem.boot_len (pa_cons (pv 2) pa_nil)) (pe_int) (nomark _)) (pss_one (ps_ret (pe_gm (gm_seen c) hr passL (pv 0) (pa_cons (pv 1) (pa_nil))))) (pss_nil)) (pss_one (ps_ret (pe_gm (gm_done c) hr passE (pv 0) (pa_cons (pv 2) (pa_nil))))))))), ?_⟩
    rcases h with ⟨a, dx, u, v, n, rfl, ha, h1, h10, hq⟩ | ⟨a, y, b, yb, db, B, sw, rfl, hD, hY, h12, hok, hq⟩ | ⟨a, y, b, yb, db, B, k, rfl, hD, hok, hq⟩ | ⟨a, y, b, yb, db, B, q, rfl, hD, hok, hf, hq⟩
    · have hw := two_wd (wdk "bars") (Nat.lt_of_le_of_lt h10 (by decide : 10 < 10 ^ 9))
      have hlen := row_len hw
      refine ⟨_, rfl, ⟨_, rfl⟩, _, _, rfl, rfl, (by decide +kernel), Nat.le_trans (Nat.add_le_add_right hlen 2) (by show 2 * 21 + 2 ≤ sizeLine; decide), fun p np => ?_⟩
      rw [row_split hw (List.cons_ne_nil _ _)]
      generalize hH1 : upd H p (.lst (List.map V.str ["bars", tN n])) = H1
      have s1 : Same H H1 := by
        rw [← hH1]
        exact same_new np
      have hp1 : H1 p = some (.lst [.str "bars", .str (tN n)]) := by
        rw [← hH1]
        exact upd_same
      refine ⟨_, rfl, p, _, 0, _, rfl, rfl, SqL.of hp1, rfl, rfl, _, rfl, ifd_t rfl ?_⟩
      refine ⟨_, rfl, a, dx, _, rfl, s1 a _ ha, dk_no _ _ (by decide +kernel) (by decide +kernel), _, rfl, n, rfl, h1, h10, fun H2 s2 => ⟨Nat.zero_le _, fun l nl => ⟨by show 2 ≤ sizeLine; decide, fun t nt => ?_⟩⟩⟩
      have s3 : Same H (upd (upd H2 l (.lst [])) t (.tup [vN n, .ref l])) := same_mut' (same_mut' (s1.trans s2) nl) nt
      refine ⟨a, t, dx, u, v, (n, []), rfl, s3 a _ ha, ⟨l, [], upd_same, ?_, trivial⟩, ⟨h10, Nat.zero_le _, fun _ h => absurd h List.not_mem_nil⟩, fun b yb db H' hD k => hq t b yb db H' hD fun x o e h => k x o (s3 x o e) h⟩
      rw [upd_ne (ne_of_none upd_same nt)]
      exact upd_same
    · have hw := Sw.wds hok hY.n
      have hel : 1 ≤ sw.ends.length ∧ sw.ends.length ≤ 2 := by cases sw <;> simp [Sw.ends]
      have hwl : sw.words.length = sw.ends.length + 1 := by
        show (sw.ends.map tN).length + 1 = _
        rw [List.length_map]
      have hlen := row_len hw
      have hsz : (rowOf sw.words).length + 2 ≤ sizeLine := Nat.le_trans (show _ ≤ 3 * 21 + 2 by omega) (by decide)
      refine ⟨_, rfl, ⟨_, rfl⟩, _, _, rfl, rfl, (by decide +kernel), hsz, fun p np => ?_⟩
      rw [row_split hw (List.cons_ne_nil _ _)]
      generalize hH1 : upd H p (.lst (List.map V.str sw.words)) = H1
      have s1 : Same H H1 := by
        rw [← hH1]
        exact same_new np
      have hp1 : H1 p = some (.lst (.str sw.kind :: (sw.ends.map tN).map V.str)) := by
        rw [← hH1]
        exact upd_same
      obtain ⟨dx, ha⟩ := hD.ob
      have ha1 := s1 a _ ha
      refine ⟨_, rfl, p, _, 0, _, rfl, rfl, SqL.of hp1, atI_nat (j := 0) rfl, rfl, _, rfl, ifd_f sw.nbars ?_⟩
      refine ⟨_, rfl, a, _, dx, _, _, rfl, ha1, cD, n_yard, dk_yard _ _, rfl, _, rfl, ifd_f (fun e => nomatch e) ?_⟩
      refine ⟨_, rfl, p, _, 0, _, rfl, rfl, SqL.of hp1, atI_nat (j := 0) rfl, _, rfl, ?_⟩
      rw [Sw.ends_len]
      refine ⟨_, _, rfl, rfl, _, rfl, ifT (decide_eq_true (by omega)) ?_⟩
      refine ⟨_, rfl, a, dx, _, rfl, ha1, dk_no _ _ (by decide +kernel) (by decide +kernel), _, rfl, a, _, dx, _, _, rfl, ha1, cD, n_yard, dk_yard _ _, _, rfl, y, B.Y, sw, rfl, hD.yd.mono s1, hY, h12, hok, fun t H2 s2 nt hT => ?_⟩
      refine ⟨a, t, dx, _, _, _, rfl, s2 a _ ha1, hT, ⟨hY.n, ?_, ?_⟩, fun b yb db H' hD k => hq t b yb db H' hD fun x o e h => k x o (s2 x o (s1 x o e)) h⟩
      · rw [List.length_append, List.length_singleton]
        omega
      · intro z hz
        rcases List.mem_append.mp hz with hz | hz
        · exact hY.sw z hz
        · rw [List.mem_singleton.mp hz]
          exact hok
    · have hw : ∀ w ∈ [k.word], Wd w := fun w hw => by
        rw [List.mem_singleton.mp hw]
        exact k.wd
      have hlen := row_len hw
      have hsz : k.word.length + 2 ≤ sizeLine := Nat.le_trans (Nat.add_le_add_right k.wd.sh 2) (by decide)
      have hsp : Txt.split k.word " " = [k.word] := by
        have z := row_split hw (List.cons_ne_nil _ _)
        rw [← k.row] at z
        exact z
      refine ⟨_, rfl, ⟨_, rfl⟩, _, _, rfl, rfl, (by decide +kernel), hsz, fun p np => ?_⟩
      rw [hsp]
      generalize hH1 : upd H p (.lst (List.map V.str [k.word])) = H1
      have s1 : Same H H1 := by
        rw [← hH1]
        exact same_new np
      have hp1 : H1 p = some (.lst [.str k.word]) := by
        rw [← hH1]
        exact upd_same
      obtain ⟨dx, ha⟩ := hD.ob
      have ha1 := s1 a _ ha
      refine ⟨_, rfl, p, _, 0, _, rfl, rfl, SqL.of hp1, rfl, rfl, _, rfl, ifd_f k.nbars ?_⟩
      refine ⟨_, rfl, a, _, dx, _, _, rfl, ha1, cD, n_yard, dk_yard _ _, rfl, _, rfl, ifd_f (fun e => nomatch e) ?_⟩
      refine ⟨_, rfl, p, _, 0, _, rfl, rfl, SqL.of hp1, rfl, _, rfl, ?_⟩
      rw [Lk.ends]
      refine ⟨_, _, rfl, rfl, _, rfl, ifF (by decide) ?_⟩
      refine ⟨_, rfl, p, _, rfl, .inl (SqL.of hp1), rfl, _, rfl, ifd_t rfl ?_⟩
      exact ⟨_, rfl, a, dx, _, rfl, ha1, dk_no _ _ (by decide +kernel) (by decide +kernel), _, rfl, a, y, b, yb, db, B, k, rfl, hD.mono s1, hok, fun H' s' => hq H' (s1.trans s')⟩
    · have hw := Dd.wds hf
      obtain ⟨l2, l11⟩ := Dd.len hf
      have hlen := row_len hw
      have hsz : (rowOf q.words).length + 2 ≤ sizeLine := Nat.le_trans (show _ ≤ 11 * 21 + 2 by omega) (by decide)
      obtain ⟨r, er⟩ := q.head
      refine ⟨_, rfl, ⟨_, rfl⟩, _, _, rfl, rfl, (by decide +kernel), hsz, fun p np => ?_⟩
      rw [row_split hw (by rw [er]; exact List.cons_ne_nil _ _)]
      generalize hH1 : upd H p (.lst (List.map V.str q.words)) = H1
      have s1 : Same H H1 := by
        rw [← hH1]
        exact same_new np
      have hp0 : H1 p = some (.lst (q.words.map V.str)) := by
        rw [← hH1]
        exact upd_same
      have hp1 : H1 p = some (.lst (.str q.word :: r.map V.str)) := by
        rw [er] at hp0
        exact hp0
      obtain ⟨dx, ha⟩ := hD.ob
      have ha1 := s1 a _ ha
      refine ⟨_, rfl, p, _, 0, _, rfl, rfl, SqL.of hp1, atI_nat (j := 0) rfl, rfl, _, rfl, ifd_f q.nbars ?_⟩
      refine ⟨_, rfl, a, _, dx, _, _, rfl, ha1, cD, n_yard, dk_yard _ _, rfl, _, rfl, ifd_f (fun e => nomatch e) ?_⟩
      refine ⟨_, rfl, p, _, 0, _, rfl, rfl, SqL.of hp1, atI_nat (j := 0) rfl, _, rfl, ?_⟩
      rw [Dd.ends]
      refine ⟨_, _, rfl, rfl, _, rfl, ifF (by decide) ?_⟩
      refine ⟨_, rfl, p, _, rfl, .inl (SqL.of hp1), rfl, _, rfl, ifd_f (fun e => ?_) ?_⟩
      · have := V.int.inj e
        rw [er] at l2
        rw [List.length_cons] at l2
        rw [List.length_cons, List.length_map] at this
        omega
      exact ⟨_, rfl, a, dx, _, rfl, ha1, dk_no _ _ (by decide +kernel) (by decide +kernel), _, rfl, a, y, b, yb, db, p, B, q, rfl, hp0, hD.mono s1, hok, hf, hq.go s1 fun _ _ _ _ _ _ h => h⟩
end
end K38
namespace K38
open PySem PySem.Spec PyProof.Rows L2
/-! ### the law's deed, and what it makes of a refusal -/
def clsV (n : Str) : List V := fift.map fun x => .bl (decide (n = x))
def ResL (K : PySem.W.Frag) (H : Hp) (b y d : Addr) (Q : VK) (val : Bd → V) (r : Except Str Bd) : Prop := match r with
  | .ok B' => ∀ H' : Hp, BAt K H' b y d B' → Kept b d H H' → Q (val B') H'
  | .error x => ∀ (p : Addr) (H' : Hp), Same H H' → H p = none → H' p = some (.lst (clsV x)) → Q (.ref p) H'
theorem turnN_err {Y : Yard} {s i : Nat} {x : Str} (h : turnN Y s i = .error x) : x ∈ rais := by
  unfold turnN at h
  split at h
  · cases h
    decide +kernel
  · split at h
    · cases h
    · cases h
      decide +kernel
theorem op_err {B : Bd} {q : Dd} {x : Str} (h : q.op B = .error x) : x ∈ rais := by
  cases q with
  | turn n =>
    have h : turnB B n = .error x := h
    unfold turnB at h
    split at h
    · cases h
      decide +kernel
    · split at h
      · cases h
        decide +kernel
      · split at h
        · cases h
          decide +kernel
        · split at h
          · cases h
          · cases h
            exact turnN_err (by assumption)
  | lock n =>
    have h : lockB B n = .error x := h
    unfold lockB at h
    split at h
    · cases h
      decide +kernel
    · split at h
      · cases h
        decide +kernel
      · split at h
        · cases h
          decide +kernel
        · split at h
          · cases h
            decide +kernel
          · cases h
  | unlock n =>
    have h : unlockB B n = .error x := h
    unfold unlockB at h
    split at h
    · cases h
      decide +kernel
    · split at h
      · cases h
        decide +kernel
      · split at h
        · cases h
          decide +kernel
        · cases h
  | back n =>
    have h : backB B n = .error x := h
    unfold backB at h
    split at h
    · cases h
    · cases h
      decide +kernel
  | permit n =>
    have h : permitB B n = .error x := h
    unfold permitB at h
    split at h
    · split at h
      · cases h
      · cases h
        decide +kernel
    · cases h
      decide +kernel
def spLawDeed (K : PySem.W.Frag) : Sp := fun vs H Q E => ∃ (b yb db : Addr) (B : Bd) (q : Dd), vs = [.ref b, .str q.word, vN q.num] ∧ BAt K H b yb db B ∧ BOk B ∧ q.fine B ∧ Res K H b yb db Q E (fun B' => .str (q.ans B')) (q.op B)
def spDue (K : PySem.W.Frag) : Sp := fun vs H Q _ => ∃ (b yb db : Addr) (B : Bd) (q : Dd), vs = [.ref b, .str q.word, vN q.num] ∧ BAt K H b yb db B ∧ BOk B ∧ q.fine B ∧ ResL K H b yb db Q (fun B' => .str (q.ans B')) (q.op B)
def spSaid (K : PySem.W.Frag) : Sp := fun vs H Q _ => ∃ (a y b yb db : Addr) (B : Bd) (q : Dd), vs = [.ref a, .str (rowOf q.words)] ∧ DkAt K H a y b yb db B ∧ BOk B ∧ q.fine B ∧ ResL K H b yb db Q (fun B' => .str (q.ans B')) (q.op B)
def spClasses (K : PySem.W.Frag) : Sp := fun vs H Q _ => ∃ (e : Addr) (n : Str), vs = [.ref e] ∧ n ∈ rais ∧ H e = some (ExH (.ref (He.ga K n)) none e) ∧ ∀ (p : Addr) (H' : Hp), Same H H' → H p = none → H' p = some (.lst (clsV n)) → Q (.ref p) H'
section
variable {P : Program} {w : World} {K : PySem.W.Frag} {mg : Str → Option Value} {base : Heap}
theorem go_lawdeed (c : Ct K mg) : Go P w K mg base 11 "_law_deed" (spLawDeed K) := by
  have nd : (["board", "word", "number"] : List Str).Nodup := by decide +kernel
  refine go_of (d := d_law_deed) (N := ["board", "word", "number"]) (ps := ["board", "word", "number"]) (k := 10) c 26 rfl rfl rfl rfl ⟨rfl, rfl, rfl, nd, rfl, by decide +kernel, by decide +kernel⟩ (fun _ _ _ _ _ _ us hl => match us, hl with | [_, _, _], _ => rfl) (fun vs H Q E h => ?_) (fun cdv A outer s H vs Q E hr h => ?_)
  · obtain ⟨b, yb, db, B, q, rfl, _⟩ := h
    rfl
  · obtain ⟨b, yb, db, B, q, rfl, hB, hok, hf, hq⟩ := h
    refine ⟨_, pss_cons (ps_if (pt_cmpR op_eq (pv 1) (pe_str) (nomark _)) (pss_one (ps_ret (pe_ix ix_list (pe_lst (pa_cons (pe_str) (pa_cons (pe_str) (pa_nil)))) (pe_bit (pe_gm (gm_turn c) hr passE (pv 0) (pa_cons (pv 2) (pa_nil))) (pv 2)) (fun _ _ => rfl)))) (pss_nil)) (pss_cons (ps_if (pt_cmpR op_eq (pv 1) (pe_str) (nomark _)) (pss_one (ps_ret (pe_op op_add_str (pe_str) (pe_callTy call_str_int (by rfl) (c.free "str") (by decide +kernel) (pa_cons (pe_gm (gm_permit c) hr passE (pv 0) (pa_cons (pv 2) (pa_nil))) (pa_nil)))))) (pss_nil)) (pss_cons (ps_if (pt_cmpR op_eq (pv 1) (pe_str) (nomark _)) (pss_one (ps_expr (pe_gm (gm_lock c) hr passE (pv 0) (pa_cons (pv 2) (pa_nil))))) (pss_one (ps_if (pt_cmpR op_eq (pv 1) (pe_str) (nomark _)) (pss_one (ps_expr (pe_gm (gm_unlock c) hr passE (pv 0) (pa_cons (pv 2) (pa_nil))))) (pss_one (ps_expr (pe_gm (gm_back c) hr passE (pv 0) (pa_cons (pv 2) (pa_nil)))))))) (pss_one (ps_ret (pe_str))))), ?_⟩
    obtain ⟨ex, hb⟩ := hB.ob
    have no : ∀ {m : Str}, ¬ m = "yard" → ¬ m = "shut_ones" → ¬ m = "locks" → ¬ m = "given" → ¬ m = "last" → (bf yb B.sh B.lk db B.last).lookup m = none := fun h1 h2 h3 h4 h5 => bf_no _ _ _ _ _ h1 h2 h3 h4 h5
    cases q with
    | turn n =>
      refine ⟨_, rfl, rfl, _, rfl, ifd_t rfl ⟨by show 2 ≤ sizeLine; decide, fun l nl => ?_⟩⟩
      have sl := same_new (o := .lst [.str "open", .str "shut"]) nl
      refine ⟨_, rfl, b, ex, _, rfl, sl b _ hb, no (by decide +kernel) (by decide +kernel) (by decide +kernel) (by decide +kernel) (by decide +kernel), _, rfl, b, yb, db, B, n, rfl, hB.mono sl, hok, ?_⟩
      refine hq.go sl fun B' H' e hB2 k k1 hh => ⟨_, rfl, B'.sh, n, rfl, rfl, ?_⟩
      obtain ⟨kvs, hdb, _⟩ := hB.dc
      have hl : H' l = some (.lst [.str "open", .str "shut"]) := k1 l _ upd_same (ne_of_none hb nl).symm (ne_of_none hdb nl).symm
      have hh2 : Q (.str (if B'.sh.testBit n = true then "shut" else "open")) H' := hh
      cases ht : B'.sh.testBit n with
      | true =>
        rw [ht, if_pos rfl] at hh2
        exact ⟨l, _, 1, _, rfl, rfl, SqL.of hl, rfl, hh2⟩
      | false =>
        rw [ht, if_neg Bool.false_ne_true] at hh2
        exact ⟨l, _, 0, _, rfl, rfl, SqL.of hl, rfl, hh2⟩
    | permit n =>
      refine ⟨_, rfl, rfl, _, rfl, ifd_f (kne "permit" "turn") ⟨_, rfl, rfl, _, rfl, ifd_t rfl ?_⟩⟩
      obtain ⟨f1, f2, f3, f4⟩ := hf
      refine ⟨_, rfl, b, ex, _, rfl, hb, no (by decide +kernel) (by decide +kernel) (by decide +kernel) (by decide +kernel) (by decide +kernel), _, rfl, b, yb, db, B, n, rfl, hB, hok, ⟨f1, f2, f4⟩, ?_⟩
      refine hq.go (Same.refl H) fun B' H' e hB2 k k1 hh => ?_
      have hl := (permitB_ok hok e).2.2
      have h9 : B'.last < 10 ^ 9 := by
        rw [hl]
        exact Nat.lt_of_le_of_lt (Nat.succ_le_succ f4) (by decide)
      refine ⟨_, rfl, log_small h9, _, _, rfl, rfl, ?_, ?_⟩
      · rw [tN_eq]
        have := tN_len h9
        exact Nat.le_trans (Nat.add_le_add_left this _) (by decide +kernel)
      · rw [tN_eq]
        exact hh
    | lock n =>
      refine ⟨_, rfl, rfl, _, rfl, ifd_f (kne "lock" "turn") ⟨_, rfl, rfl, _, rfl, ifd_f (kne "lock" "permit") ⟨_, rfl, rfl, _, rfl, ifd_t rfl ?_⟩⟩⟩
      refine ⟨_, rfl, b, ex, _, rfl, hb, no (by decide +kernel) (by decide +kernel) (by decide +kernel) (by decide +kernel) (by decide +kernel), _, rfl, b, yb, db, B, n, rfl, hB, hok, ?_⟩
      exact hq.go (Same.refl H) fun B' H' e hB k k1 hh => hh
    | unlock n =>
      refine ⟨_, rfl, rfl, _, rfl, ifd_f (kne "unlock" "turn") ⟨_, rfl, rfl, _, rfl, ifd_f (kne "unlock" "permit") ⟨_, rfl, rfl, _, rfl, ifd_f (kne "unlock" "lock") ⟨_, rfl, rfl, _, rfl, ifd_t rfl ?_⟩⟩⟩⟩
      refine ⟨_, rfl, b, ex, _, rfl, hb, no (by decide +kernel) (by decide +kernel) (by decide +kernel) (by decide +kernel) (by decide +kernel), _, rfl, b, yb, db, B, n, rfl, hB, hok, ?_⟩
      exact hq.go (Same.refl H) fun B' H' e hB k k1 hh => hh
    | back n =>
      refine ⟨_, rfl, rfl, _, rfl, ifd_f (kne "back" "turn") ⟨_, rfl, rfl, _, rfl, ifd_f (kne "back" "permit") ⟨_, rfl, rfl, _, rfl, ifd_f (kne "back" "lock") ⟨_, rfl, rfl, _, rfl, ifd_f (kne "back" "unlock") ?_⟩⟩⟩⟩
      refine ⟨_, rfl, b, ex, _, rfl, hb, no (by decide +kernel) (by decide +kernel) (by decide +kernel) (by decide +kernel) (by decide +kernel), _, rfl, b, yb, db, B, n, rfl, hB, hok, ?_⟩
      exact hq.go (Same.refl H) fun B' H' e hB k k1 hh => hh
end
end K38
namespace K38
open PySem PySem.Spec PyProof.Rows L2
section
variable {X : Cx} {k j : Nat} {C m : Str} {sp : Sp} {e o : Expr} {es : List Expr} {ta : TE} {t : TA} {pos apos : Pos}
theorem pe_gmTry {K : PySem.W.Frag} {pl : Sem Bool} {E : L2.St → XK} (g : Gm X.prog X.w K X.mg X.base k C m sp) (hr : Room j X.A) (hx : ∀ σ, PassesAt (L2.CX X.prog X.w) X σ (E σ)) (ho : PE X o ta) (ha : PA X (e :: es) t) (hK : X.K = K := by rfl) (hk : k ≤ j := by decide)
    (hst : starEach (e :: es) X.env = (false, eval e X.env) :: starEach es X.env := by rfl) (hpl : (backTo pos (starEach es X.env)).any (·.1) = false := by rfl)
    (ht : eval (.Call (.Attribute o m apos) (e :: es) [] pos) X.env = (do
      let ov ← eval o X.env
      standAt apos.atName
      let (f, first) ← holding [ov] (getMethod ov m pl)
      callWith pos f first (backTo pos (starEach (e :: es) X.env)) (backToKw pos (keywordEach [] X.env))) := by rfl) : PE X (.Call (.Attribute o m apos) (e :: es) [] pos) (tMethAt (He.ga K C) m sp E ta t) := by
  subst hK
  exact pe_gmAt (pl := pl) g hr hx ho ha hk hst hpl ht
end
section
variable {P : Program} {w : World} {K : PySem.W.Frag} {mg : Str → Option Value} {base : Heap}

theorem go_classes (c : Ct K mg) : Go P w K mg base 1 "_law_classes" (spClasses K) := by
  have nd : (["e", "told"] : List Str).Nodup := by decide +kernel
  refine go_of (d := d_law_classes) (N := ["e", "told"]) (ps := ["e"]) (k := 0) c 24 rfl rfl rfl rfl ⟨rfl, rfl, rfl, nd, rfl, by decide +kernel, by decide +kernel⟩ (fun _ _ _ _ _ _ us hl => match us, hl with | [_], _ => rfl) (fun vs H Q E h => ?_) (fun cdv A outer s H vs Q E hr h => ?_)
  · obtain ⟨e, n, rfl, _⟩ := h
    rfl
  · obtain ⟨e, n, rfl, hn, he, hq⟩ := h
    refine ⟨_, PSs.nox (pss_cons (ps_set (i := 1) nd rfl (Or.inl rfl) (pe_lst (pa_cons (pe_callB call_isX (by rfl) (c.free "isinstance") PyProof.Rows.boot_isinstance (pa_cons (pv 0) (pa_cons (pe_glob (v := .ref (He.ga K "NoSwitch")) rfl (c.glo "NoSwitch") rfl) (pa_nil)))) (pa_cons (pe_callB call_isX (by rfl) (c.free "isinstance") PyProof.Rows.boot_isinstance (pa_cons (pv 0) (pa_cons (pe_glob (v := .ref (He.ga K "Loaded")) rfl (c.glo "Loaded") rfl) (pa_nil)))) (pa_cons (pe_callB call_isX (by rfl) (c.free "isinstance") PyProof.Rows.boot_isinstance (pa_cons (pv 0) (pa_cons (pe_glob (v := .ref (He.ga K "Shorted")) rfl (c.glo "Shorted") rfl) (pa_nil)))) (pa_cons (pe_callB call_isX (by rfl) (c.free "isinstance") PyProof.Rows.boot_isinstance (pa_cons (pv 0) (pa_cons (pe_glob (v := .ref (He.ga K "Locked")) rfl (c.glo "Locked") rfl) (pa_nil)))) (pa_nil))))))) (pss_cons (ps_set (i := 1) nd rfl (Or.inl rfl) (pe_op op_cat (pv 1) (pe_lst (pa_cons (pe_callB call_isX (by rfl) (c.free "isinstance") PyProof.Rows.boot_isinstance (pa_cons (pv 0) (pa_cons (pe_glob (v := .ref (He.ga K "Held")) rfl (c.glo "Held") rfl) (pa_nil)))) (pa_cons (pe_callB call_isX (by rfl) (c.free "isinstance") PyProof.Rows.boot_isinstance (pa_cons (pv 0) (pa_cons (pe_glob (v := .ref (He.ga K "NoLock")) rfl (c.glo "NoLock") rfl) (pa_nil)))) (pa_cons (pe_callB call_isX (by rfl) (c.free "isinstance") PyProof.Rows.boot_isinstance (pa_cons (pv 0) (pa_cons (pe_glob (v := .ref (He.ga K "NotOpen")) rfl (c.glo "NotOpen") rfl) (pa_nil)))) (pa_cons (pe_callB call_isX (by rfl) (c.free "isinstance") PyProof.Rows.boot_isinstance (pa_cons (pv 0) (pa_cons (pe_glob (v := .ref (He.ga K "NotLocked")) rfl (c.glo "NotLocked") rfl) (pa_nil)))) (pa_nil)))))))) (pss_cons (ps_set (i := 1) nd rfl (Or.inl rfl) (pe_op op_cat (pv 1) (pe_lst (pa_cons (pe_callB call_isX (by rfl) (c.free "isinstance") PyProof.Rows.boot_isinstance (pa_cons (pv 0) (pa_cons (pe_glob (v := .ref (He.ga K "NotEarthed")) rfl (c.glo "NotEarthed") rfl) (pa_nil)))) (pa_cons (pe_callB call_isX (by rfl) (c.free "isinstance") PyProof.Rows.boot_isinstance (pa_cons (pv 0) (pa_cons (pe_glob (v := .ref (He.ga K "NotDead")) rfl (c.glo "NotDead") rfl) (pa_nil)))) (pa_cons (pe_callB call_isX (by rfl) (c.free "isinstance") PyProof.Rows.boot_isinstance (pa_cons (pv 0) (pa_cons (pe_glob (v := .ref (He.ga K "NoPermit")) rfl (c.glo "NoPermit") rfl) (pa_nil)))) (pa_nil))))))) (pss_one (ps_ret (pe_op op_cat (pv 1) (pe_lst (pa_cons (pe_callB call_isX (by rfl) (c.free "isinstance") PyProof.Rows.boot_isinstance (pa_cons (pv 0) (pa_cons (pe_glob (v := .ref (He.ga K "NoRow")) rfl (c.glo "NoRow") rfl) (pa_nil)))) (pa_cons (pe_callB call_isX (by rfl) (c.free "isinstance") PyProof.Rows.boot_isinstance (pa_cons (pv 0) (pa_cons (pe_glob (v := .ref (He.ga K "NoMeasure")) rfl (c.glo "NoMeasure") rfl) (pa_nil)))) (pa_cons (pe_callB call_isX (by rfl) (c.free "isinstance") PyProof.Rows.boot_isinstance (pa_cons (pv 0) (pa_cons (pe_glob (v := .ref (He.ga K "NoBar")) rfl (c.glo "NoBar") rfl) (pa_nil)))) (pa_cons (pe_callB call_isX (by rfl) (c.free "isinstance") PyProof.Rows.boot_isinstance (pa_cons (pv 0) (pa_cons (pe_glob (v := .ref (He.ga K "Same")) rfl (c.glo "Same") rfl) (pa_nil)))) (pa_nil)))))))))))), ?_⟩
    refine ⟨_, rfl, e, _, _, _, _, rfl, he, c.excC hn, (fun u r => r), c.isi hn (x := "NoSwitch") (by decide +kernel), _, rfl, e, _, _, _, _, rfl, he, c.excC hn, (fun u r => r), c.isi hn (x := "Loaded") (by decide +kernel), _, rfl, e, _, _, _, _, rfl, he, c.excC hn, (fun u r => r), c.isi hn (x := "Shorted") (by decide +kernel), _, rfl, e, _, _, _, _, rfl, he, c.excC hn, (fun u r => r), c.isi hn (x := "Locked") (by decide +kernel), (by show 4 ≤ sizeLine; decide), fun l1 n1 => ?_⟩
    have s1 := same_new (o := .lst [.bl (decide (n = "NoSwitch")), .bl (decide (n = "Loaded")), .bl (decide (n = "Shorted")), .bl (decide (n = "Locked"))]) n1
    refine ⟨_, rfl, _, rfl, e, _, _, _, _, rfl, (s1 e _ he), c.excC hn, (fun u r => r), c.isi hn (x := "Held") (by decide +kernel), _, rfl, e, _, _, _, _, rfl, (s1 e _ he), c.excC hn, (fun u r => r), c.isi hn (x := "NoLock") (by decide +kernel), _, rfl, e, _, _, _, _, rfl, (s1 e _ he), c.excC hn, (fun u r => r), c.isi hn (x := "NotOpen") (by decide +kernel), _, rfl, e, _, _, _, _, rfl, (s1 e _ he), c.excC hn, (fun u r => r), c.isi hn (x := "NotLocked") (by decide +kernel), (by show 4 ≤ sizeLine; decide), fun l2 n2 => ?_⟩
    have e2 := ne_of_none upd_same n2
    refine ⟨l1, l2, _, _, rfl, rfl, (by rw [upd_ne e2]; exact upd_same), upd_same, (by show 8 ≤ sizeLine; decide), fun l3 n3 => ?_⟩
    generalize hH3 : upd (upd (upd H l1 _) l2 _) l3 _ = H3
    have s3 : Same H H3 := by
      rw [← hH3]
      exact same_mut' (same_mut' (same_new n1) n2) n3
    have h3 : H3 l3 = some (.lst [.bl (decide (n = "NoSwitch")), .bl (decide (n = "Loaded")), .bl (decide (n = "Shorted")), .bl (decide (n = "Locked")), .bl (decide (n = "Held")), .bl (decide (n = "NoLock")), .bl (decide (n = "NotOpen")), .bl (decide (n = "NotLocked"))]) := by
      rw [← hH3]
      exact upd_same
    clear hH3
    refine ⟨_, rfl, _, rfl, e, _, _, _, _, rfl, (s3 e _ he), c.excC hn, (fun u r => r), c.isi hn (x := "NotEarthed") (by decide +kernel), _, rfl, e, _, _, _, _, rfl, (s3 e _ he), c.excC hn, (fun u r => r), c.isi hn (x := "NotDead") (by decide +kernel), _, rfl, e, _, _, _, _, rfl, (s3 e _ he), c.excC hn, (fun u r => r), c.isi hn (x := "NoPermit") (by decide +kernel), (by show 3 ≤ sizeLine; decide), fun l4 n4 => ?_⟩
    refine ⟨l3, l4, _, _, rfl, rfl, (by rw [upd_ne (ne_of_none h3 n4)]; exact h3), upd_same, (by show 11 ≤ sizeLine; decide), fun l5 n5 => ?_⟩
    generalize hH5 : upd (upd H3 l4 _) l5 _ = H5
    have s5 : Same H H5 := by
      rw [← hH5]
      exact same_mut' (same_mut' s3 n4) n5
    have h5 : H5 l5 = some (.lst [.bl (decide (n = "NoSwitch")), .bl (decide (n = "Loaded")), .bl (decide (n = "Shorted")), .bl (decide (n = "Locked")), .bl (decide (n = "Held")), .bl (decide (n = "NoLock")), .bl (decide (n = "NotOpen")), .bl (decide (n = "NotLocked")), .bl (decide (n = "NotEarthed")), .bl (decide (n = "NotDead")), .bl (decide (n = "NoPermit"))]) := by
      rw [← hH5]
      exact upd_same
    clear hH5
    refine ⟨_, rfl, _, rfl, e, _, _, _, _, rfl, (s5 e _ he), c.excC hn, (fun u r => r), c.isi hn (x := "NoRow") (by decide +kernel), _, rfl, e, _, _, _, _, rfl, (s5 e _ he), c.excC hn, (fun u r => r), c.isi hn (x := "NoMeasure") (by decide +kernel), _, rfl, e, _, _, _, _, rfl, (s5 e _ he), c.excC hn, (fun u r => r), c.isi hn (x := "NoBar") (by decide +kernel), _, rfl, e, _, _, _, _, rfl, (s5 e _ he), c.excC hn, (fun u r => r), c.isi hn (x := "Same") (by decide +kernel), (by show 4 ≤ sizeLine; decide), fun l6 n6 => ?_⟩
    refine ⟨l5, l6, _, _, rfl, rfl, (by rw [upd_ne (ne_of_none h5 n6)]; exact h5), upd_same, (by show 15 ≤ sizeLine; decide), fun l7 n7 => ?_⟩
    have z1 := same_mut' (o := .lst [.bl (decide (n = "NoRow")), .bl (decide (n = "NoMeasure")), .bl (decide (n = "NoBar")), .bl (decide (n = "Same"))]) s5 n6
    exact hq l7 _ (same_mut' z1 n7) (z1.free n7) upd_same
theorem go_said (c : Ct K mg) : Go P w K mg base 14 "_law_said" (spSaid K) := by
  have nd : (["desk", "row", "caught", "told", "e"] : List Str).Nodup := by decide +kernel
  refine go_of (d := d_law_said) (N := ["desk", "row", "caught", "told", "e"]) (ps := ["desk", "row"]) (k := 13) c 25 rfl rfl rfl rfl ⟨rfl, rfl, rfl, nd, rfl, by decide +kernel, by decide +kernel⟩ (fun _ _ _ _ _ _ us hl => match us, hl with | [_, _], _ => rfl) (fun vs H Q E h => ?_) (fun cdv A outer s H vs Q E hr h => ?_)
  · obtain ⟨a, y, b, yb, db, B, q, rfl, _⟩ := h
    rfl
  · obtain ⟨a, y, b, yb, db, B, q, rfl, hD, hok, hf, hq⟩ := h
    refine ⟨_, PSs.nox (pss_cons (ps_set (i := 2) nd rfl (Or.inl rfl) (pe_non)) (pss_cons (ps_set (i := 3) nd rfl (Or.inl rfl) (pe_non)) (pss_cons (ps_try_ca (i := 4) (j := 2) rfl rfl rfl nd rfl rfl (by decide) rfl rfl ⟨rfl, by decide, .inl (c.glo "WardError")⟩ (hb := fun W pn xe tk _ => by exact pss_one (ps_set (i := 3) nd rfl (Or.inl rfl) (pe_gmTry (gm_say c) hr (fun σ => passAt tk σ) (pv 0) (pa_cons (pv 1) pa_nil))))) (pss_cons (ps_if (pt_cmpR op_notN (pv 2) pe_non (nomark _)) (pss_one (ps_ret (pe_g (go_classes c) hr passL (pa_cons (pv 2) (pa_nil))))) (pss_nil)) (pss_one (ps_ret (pv 3))))))), ?_⟩
    obtain ⟨dx, ha⟩ := hD.ob
    refine ⟨_, rfl, a, dx, _, rfl, ha, dk_no _ _ (by decide +kernel) (by decide +kernel), _, rfl, .inr (.inr (.inr ⟨a, y, b, yb, db, B, q, rfl, hD, hok, hf, ?_⟩))⟩
    cases e : q.op B with
    | ok B' =>
      rw [e] at hq
      intro H' hB k
      exact ⟨_, rfl, rfl, _, rfl, ifnd_f rfl ⟨_, rfl, hq H' hB k⟩⟩
    | error x =>
      rw [e] at hq
      intro H1 s1
      have hx := op_err e
      refine ⟨c.ward hx, fun ea ne => ?_⟩
      exact ⟨_, rfl, rfl, _, rfl, ifnd_t (fun z => nomatch z) ⟨_, rfl, ea, x, rfl, hx, upd_same, fun p H2 s2 np hp => hq p H2 ((same_mut' s1 ne).trans s2) ((same_mut' s1 ne).free np) hp⟩⟩
theorem go_due (c : Ct K mg) : Go P w K mg base 12 "_law_due" (spDue K) := by
  have nd : (["board", "word", "number", "caught", "told", "e"] : List Str).Nodup := by decide +kernel
  refine go_of (d := d_law_due) (N := ["board", "word", "number", "caught", "told", "e"]) (ps := ["board", "word", "number"]) (k := 11) c 27 rfl rfl rfl rfl ⟨rfl, rfl, rfl, nd, rfl, by decide +kernel, by decide +kernel⟩ (fun _ _ _ _ _ _ us hl => match us, hl with | [_, _, _], _ => rfl) (fun vs H Q E h => ?_) (fun cdv A outer s H vs Q E hr h => ?_)
  · obtain ⟨b, yb, db, B, q, rfl, _⟩ := h
    rfl
  · obtain ⟨b, yb, db, B, q, rfl, hB, hok, hf, hq⟩ := h
    refine ⟨_, PSs.nox (pss_cons (ps_set (i := 3) nd rfl (Or.inl rfl) (pe_non)) (pss_cons (ps_set (i := 4) nd rfl (Or.inl rfl) (pe_non)) (pss_cons (ps_try_ca (i := 5) (j := 3) rfl rfl rfl nd rfl rfl (by decide) rfl rfl ⟨rfl, by decide, .inl (c.glo "WardError")⟩ (hb := fun W pn xe tk _ => by exact pss_one (ps_set (i := 4) nd rfl (Or.inl rfl) (pe_gAt (go_lawdeed c) hr (fun σ => passAt tk σ) (pa_cons (pv 0) (pa_cons (pv 1) (pa_cons (pv 2) pa_nil))))))) (pss_cons (ps_if (pt_cmpR op_notN (pv 3) pe_non (nomark _)) (pss_one (ps_ret (pe_g (go_classes c) hr passL (pa_cons (pv 3) (pa_nil))))) (pss_nil)) (pss_one (ps_ret (pv 4))))))), ?_⟩
    refine ⟨_, rfl, _, rfl, _, rfl, b, yb, db, B, q, rfl, hB, hok, hf, ?_⟩
    cases e : q.op B with
    | ok B' =>
      rw [e] at hq
      intro H' hB k
      exact ⟨_, rfl, rfl, _, rfl, ifnd_f rfl ⟨_, rfl, hq H' hB k⟩⟩
    | error x =>
      rw [e] at hq
      intro H1 s1
      have hx := op_err e
      refine ⟨c.ward hx, fun ea ne => ?_⟩
      exact ⟨_, rfl, rfl, _, rfl, ifnd_t (fun z => nomatch z) ⟨_, rfl, ea, x, rfl, hx, upd_same, fun p H2 s2 np hp => hq p H2 ((same_mut' s1 ne).trans s2) ((same_mut' s1 ne).free np) hp⟩⟩
end
end K38
namespace K38
open PySem PySem.Spec PyProof.Rows L2
/-! ### the desk and the board beside it -/
theorem ne_bd {H : Hp} {b d C dx : Addr} {fs : List (Str × V)} {kvs : List (Key × V)} (h1 : H b = some (.ins C dx fs)) (h2 : H d = some (.dK kvs)) : b ≠ d := ne_of h1 h2 (by intro z; cases z)
theorem BAt.away {K : PySem.W.Frag} {H H' : Hp} {b y d b2 y2 d2 : Addr} {B B2 : Bd} (h : BAt K H b y d B) (h2 : BAt K H b2 y2 d2 B2) (k : Kept b2 d2 H H') (n1 : b ≠ b2) (n2 : d ≠ d2) : BAt K H' b y d B := by
  obtain ⟨⟨dx, e1⟩, e2, kvs, e3, e4⟩ := h
  obtain ⟨ex, f1⟩ := h2.ob
  obtain ⟨kvs2, f3, _⟩ := h2.dc
  exact ⟨⟨dx, k b _ e1 n1 (ne_bd e1 f3)⟩, e2.keep (k.tup f1 f3) (k.lst f1 f3), kvs, k d _ e3 (ne_bd f1 e3).symm n2, e4.mono fun _ _ q => q.keep (k.tup f1 f3)⟩
theorem DkAt.away {K : PySem.W.Frag} {H H' : Hp} {a y b yb db b2 y2 d2 : Addr} {B B2 : Bd} (h : DkAt K H a y b yb db B) (h2 : BAt K H b2 y2 d2 B2) (k : Kept b2 d2 H H') (n1 : b ≠ b2) (n2 : db ≠ d2) : DkAt K H' a y b yb db B := by
  obtain ⟨⟨dx, e1⟩, e2, e3⟩ := h
  obtain ⟨ex, f1⟩ := h2.ob
  obtain ⟨kvs2, f3, _⟩ := h2.dc
  exact ⟨⟨dx, k a _ e1 (ne_db e1 f1) (ne_bd e1 f3)⟩, e2.keep (k.tup f1 f3) (k.lst f1 f3), e3.away h2 k n1 n2⟩
structure Two (K : PySem.W.Frag) (H : Hp) (a y b yb db b2 yb2 db2 : Addr) (B : Bd) : Prop where
  dk : DkAt K H a y b yb db B
  bd : BAt K H b2 yb2 db2 B
  n1 : b ≠ b2
  n2 : db ≠ db2
/-- tuples and lists are kept -/
def KT (H H' : Hp) : Prop := (∀ t xs, H t = some (.tup xs) → H' t = some (.tup xs)) ∧ ∀ t xs, H t = some (.lst xs) → H' t = some (.lst xs)
theorem Same.kt {H H' : Hp} (s : Same H H') : KT H H' := ⟨fun t xs e => s t _ e, fun t xs e => s t _ e⟩
theorem KT.trans {H H1 H2 : Hp} (s : KT H H1) (t : KT H1 H2) : KT H H2 := ⟨fun a xs e => t.1 a xs (s.1 a xs e), fun a xs e => t.2 a xs (s.2 a xs e)⟩
theorem BAt.kt {K : PySem.W.Frag} {H H' : Hp} {b y d : Addr} {B : Bd} (h : BAt K H b y d B) (k : Kept b d H H') : KT H H' := by
  obtain ⟨ex, f1⟩ := h.ob
  obtain ⟨kvs2, f3, _⟩ := h.dc
  exact ⟨k.tup f1 f3, k.lst f1 f3⟩
theorem Two.mono {K : PySem.W.Frag} {H H' : Hp} {a y b yb db b2 yb2 db2 : Addr} {B : Bd} (h : Two K H a y b yb db b2 yb2 db2 B) (s : Same H H') : Two K H' a y b yb db b2 yb2 db2 B := ⟨h.dk.mono s, h.bd.mono s, h.n1, h.n2⟩
def nxt (B : Bd) (q : Dd) : Bd := match q.op B with
  | .ok B' => B'
  | .error _ => B
theorem op_ok {B B' : Bd} {q : Dd} (ok : BOk B) (h : q.op B = .ok B') : BOk B' ∧ B'.Y = B.Y ∧ (B'.last = B.last ∨ B'.last = B.last + 1) := by
  cases q with
  | turn n =>
    obtain ⟨h1, h2, h3⟩ := turnB_ok ok h
    exact ⟨h1, h2, .inl h3⟩
  | lock n =>
    obtain ⟨h1, h2, h3⟩ := lockB_ok ok h
    exact ⟨h1, h2, .inl h3⟩
  | unlock n =>
    obtain ⟨h1, h2, h3⟩ := unlockB_ok ok h
    exact ⟨h1, h2, .inl h3⟩
  | back n =>
    obtain ⟨h1, h2, h3⟩ := backB_ok ok h
    exact ⟨h1, h2, .inl h3⟩
  | permit n =>
    obtain ⟨h1, h2, h3⟩ := permitB_ok ok h
    exact ⟨h1, h2, .inr h3⟩
theorem nxt_ok {B : Bd} {q : Dd} (ok : BOk B) : BOk (nxt B q) ∧ (nxt B q).Y = B.Y ∧ (nxt B q).last ≤ B.last + 1 := by
  unfold nxt
  cases e : q.op B with
  | error x => exact ⟨ok, rfl, Nat.le_succ _⟩
  | ok B' =>
    obtain ⟨h1, h2, h3⟩ := op_ok ok e
    exact ⟨h1, h2, by show B'.last ≤ _; omega⟩
def spNumT : Sp := fun vs H Q _ => ∃ n : Nat, vs = [vN n] ∧ ∀ H' : Hp, Same H H' → Q (.str (numT (bitsOf n))) H'
def lkOf : Nat → Lk
  | 0 => .live
  | 1 => .earthed
  | 2 => .locked
  | _ => .shut
def spLawLook (K : PySem.W.Frag) : Sp := fun vs H Q _ => ∃ (a y b yb db b2 yb2 db2 y3 : Addr) (B : Bd) (k : Nat), vs = [.ref a, .ref b2, .ref y3, vN k] ∧ Two K H a y b yb db b2 yb2 db2 B ∧ YH H y3 B.Y ∧ BOk B ∧ k < 4 ∧ ∀ H' : Hp, Same H H' → Q (.bl true) H'
def spSame (K : PySem.W.Frag) : Sp := fun vs H Q _ => ∃ (a y b yb db b2 yb2 db2 : Addr) (B : Bd) (q : Dd), vs = [.ref a, .ref b2, .str q.word, vN q.num] ∧ Two K H a y b yb db b2 yb2 db2 B ∧ BOk B ∧ q.fine B ∧
  ∀ H' : Hp, Two K H' a y b yb db b2 yb2 db2 (nxt B q) → KT H H' → Q (.bl true) H'
section
variable {P : Program} {w : World} {K : PySem.W.Frag} {mg : Str → Option Value} {base : Heap}
theorem go_numT (c : Ct K mg) : Go P w K mg base 1 "_law_numbers" spNumT := by
  have nd : (["some", "found", "k"] : List Str).Nodup := by decide +kernel
  refine go_of (d := d_law_numbers) (N := ["some", "found", "k"]) (ps := ["some"]) (k := 0) c 29 rfl rfl rfl rfl ⟨rfl, rfl, rfl, nd, rfl, by decide +kernel, by decide +kernel⟩ (fun _ _ _ _ _ _ us hl => match us, hl with | [_], _ => rfl) (fun vs H Q E h => ?_) (fun cdv A outer s H vs Q E hr h => ?_)
  · obtain ⟨n, rfl, _⟩ := h
    rfl
  · obtain ⟨n, rfl, hq⟩ := h
    refine ⟨_, PSs.nox (pss_cons (ps_setLc (i := 1) (own := [("k", 2)]) (g := gName 2) rfl nd rfl rfl (sw_true rfl rfl rfl rfl) (pi_range1 rfl (c.free "range") (pa_cons (pe_int) (pa_nil))) (blkOk_by (own := [("k", 2)]) (N := ["some", "found", "k"]) (sc := defScope s_law_numbers) (by decide +kernel)) (fun _ _ _ _ _ => pg_name (i := 2) nd rfl (Or.inl rfl)) (fun _ _ _ _ _ => by exact pts_one (pt_bit (pv 0) (pv 2))) (fun _ _ _ _ _ => by exact pe_callTy call_str_int (by rfl) (c.free "str") (by decide +kernel) (pa_cons (pv 2) (pa_nil)))) (pss_one (ps_ret (pe_ix ix_list (pe_lst (pa_cons (pe_join pe_str (pv 1)) (pa_cons (pe_str) (pa_nil)))) (pe_callTy call_int1 (by rfl) (c.free "int") (by decide +kernel) (pa_cons (pe_cmpR (op_eqD hr.units) (pv 1) (pe_lst (pa_nil)) (nomark _)) (pa_nil))) (fun _ _ => rfl))))), ?_⟩
    refine ⟨12, rfl, by decide, by decide, fun D hD => ?_⟩
    refine lc_range (n := 12) (LcI H D fun i => (bitsTo n i).map fun b => .str (tN b)) (LcI.start hD rfl) ?_ ?_
    · intro i H2 hi h2
      rw [Int.zero_add]
      refine ⟨rfl, _, rfl, _, rfl, n, i, rfl, rfl, _, rfl, ifb (fun hb => ?_) (fun hb => ?_)⟩
      · refine ⟨_, rfl, _, rfl, log_small (Nat.lt_trans hi (by decide)), ?_⟩
        refine h2.step hD (Same.refl _) ?_ ?_
        · show (bitsTo n (i + 1)).map (fun b => V.str (tN b)) = _
          rw [bitsTo_succ, hb, if_pos rfl, List.map_append, tN_eq]
          rfl
        · rw [List.length_map]
          exact Nat.le_trans (bitsTo_len _ _) (by omega)
      · refine ⟨h2.s, ?_⟩
        show H2 D = some (.lst ((bitsTo n (i + 1)).map fun b => V.str (tN b)))
        rw [bitsTo_succ, hb, if_neg Bool.false_ne_true, List.append_nil]
        exact h2.d
    · intro H2 h2
      have hD2 : H2 D = some (.lst (((bitsOf n).map tN).map V.str)) := by
        rw [List.map_map]
        exact h2.d
      have hw : ∀ w ∈ (bitsOf n).map tN, Wd w := by
        intro w hw
        obtain ⟨b, hb, rfl⟩ := List.mem_map.mp hw
        exact wd_num (Nat.lt_of_lt_of_le (bits_lt b hb) (by decide))
      have hl12 : (bitsOf n).length ≤ 12 := bitsTo_len _ _
      refine ⟨⟨_, rfl⟩, _, rfl, _, D, (bitsOf n).map tN, rfl, rfl, .inl (SqL.of hD2), join_small hw (by rw [List.length_map]; omega), (by show 2 ≤ sizeLine; decide), fun l nl => ?_⟩
      have sl := same_new (o := .lst [.str (Txt.join " " ((bitsOf n).map tN)), .str "none"]) nl
      refine ⟨_, rfl, Nat.zero_le _, fun m nm => ?_⟩
      have sm := same_new (o := .lst []) nm
      have hDm := sm D _ (sl D _ hD2)
      have hlm := sm l _ upd_same
      obtain ⟨d1, d2⟩ := fl_list (K := K) (f := V.str) (g := PyData.str) (xs := (bitsOf n).map tN) (fun x hx => by
        obtain ⟨b, hb, rfl⟩ := List.mem_map.mp hx
        refine fl_str _ ?_
        show (SX.S (TL.numL b)).cps.all (· < 0x110000) = true
        rw [← Array.all_toList]
        refine List.all_eq_true.mpr fun z hz => decide_eq_true ?_
        have := (TL.numL_digits b z hz).2
        omega) (SqL.of hDm)
      obtain ⟨d3, d4⟩ := dp_nil (K := K) (H := upd (upd H2 l (.lst [.str (Txt.join " " ((bitsOf n).map tN)), .str "none"])) m (.lst [])) (a := m) upd_same
      refine ⟨_, _, d1, d3, d2, d4, .inr ⟨_, rfl, ?_⟩⟩
      rw [eqv_nil, empty_map]
      have hq2 := hq _ (((h2.s).trans sl).trans sm)
      unfold numT at hq2
      by_cases h0 : bitsOf n = []
      · rw [if_pos h0] at hq2
        rw [decide_eq_true (show (bitsOf n).map tN = [] by rw [h0]; rfl)]
        exact ⟨l, _, 1, _, rfl, rfl, SqL.of hlm, rfl, hq2⟩
      · rw [if_neg h0] at hq2
        rw [decide_eq_false (fun e => h0 (List.map_eq_nil_iff.mp e))]
        exact ⟨l, _, 0, _, rfl, rfl, SqL.of hlm, rfl, hq2⟩

theorem go_look (c : Ct K mg) : Go P w K mg base 14 "_law_look" (spLawLook K) := by
  have nd : (["desk", "board", "yard", "kind", "some"] : List Str).Nodup := by decide +kernel
  refine go_of (d := d_law_look) (N := ["desk", "board", "yard", "kind", "some"]) (ps := ["desk", "board", "yard", "kind"]) (k := 13) c 30 rfl rfl rfl rfl ⟨rfl, rfl, rfl, nd, rfl, by decide +kernel, by decide +kernel⟩ (fun _ _ _ _ _ _ us hl => match us, hl with | [_, _, _, _], _ => rfl) (fun vs H Q E h => ?_) (fun cdv A outer s H vs Q E hr h => ?_)
  · obtain ⟨_, _, _, _, _, _, _, _, _, _, _, rfl, _⟩ := h
    rfl
  · obtain ⟨a, y, b, yb, db, b2, yb2, db2, y3, B, k, rfl, hT, hY, hok, hk, hq⟩ := h
    refine ⟨_, PSs.nox (pss_cons (ps_set (i := 4) nd rfl (Or.inl rfl) (pe_gm0 (gm_standing c) hr passL (pv 1))) (pss_cons (ps_if (pt_cmpR op_eq (pv 3) (pe_int) (nomark _)) (pss_one (ps_ret (pe_cmpR op_eq (pe_gm (gm_say c) hr passL (pv 0) (pa_cons (pe_str) (pa_nil))) (pe_g (go_numT c) hr passL (pa_cons (pe_g (go_live c) hr passL (pa_cons (pv 2) (pa_cons (pv 4) (pa_nil)))) (pa_nil))) (nomark _)))) (pss_nil)) (pss_cons (ps_if (pt_cmpR op_eq (pv 3) (pe_int) (nomark _)) (pss_one (ps_ret (pe_cmpR op_eq (pe_gm (gm_say c) hr passL (pv 0) (pa_cons (pe_str) (pa_nil))) (pe_g (go_numT c) hr passL (pa_cons (pe_g (go_earthed c) hr passL (pa_cons (pv 2) (pa_cons (pv 4) (pa_nil)))) (pa_nil))) (nomark _)))) (pss_nil)) (pss_cons (ps_if (pt_cmpR op_eq (pv 3) (pe_int) (nomark _)) (pss_one (ps_ret (pe_cmpR op_eq (pe_gm (gm_say c) hr passL (pv 0) (pa_cons (pe_str) (pa_nil))) (pe_g (go_numT c) hr passL (pa_cons (pe_gm0 (gm_locked c) hr passL (pv 1)) (pa_nil))) (nomark _)))) (pss_nil)) (pss_one (ps_ret (pe_cmpR op_eq (pe_gm (gm_say c) hr passL (pv 0) (pa_cons (pe_str) (pa_nil))) (pe_g (go_numT c) hr passL (pa_cons (pv 4) (pa_nil))) (nomark _)))))))), ?_⟩
    obtain ⟨dx, ha⟩ := hT.dk.ob
    obtain ⟨ex, hb⟩ := hT.bd.ob
    have no1 : (bf yb2 B.sh B.lk db2 B.last).lookup ("standing" : Str) = none := bf_no _ _ _ _ _ (by decide +kernel) (by decide +kernel) (by decide +kernel) (by decide +kernel) (by decide +kernel)
    have no2 : (bf yb2 B.sh B.lk db2 B.last).lookup ("locked" : Str) = none := bf_no _ _ _ _ _ (by decide +kernel) (by decide +kernel) (by decide +kernel) (by decide +kernel) (by decide +kernel)
    have nos : ∀ u v : V, (dkf u v).lookup ("say" : Str) = none := fun u v => dk_no u v (by decide +kernel) (by decide +kernel)
    refine ⟨_, rfl, b2, ex, _, rfl, hb, no1, b2, yb2, db2, B, rfl, hT.bd, ?_⟩
    have k4 : k = 0 ∨ k = 1 ∨ k = 2 ∨ k = 3 := by omega
    rcases k4 with rfl | rfl | rfl | rfl
    · refine ⟨_, rfl, rfl, _, rfl, ifd_t rfl ?_⟩
      refine ⟨_, rfl, a, dx, _, rfl, ha, nos _ _, .inr (.inr (.inl ⟨a, y, b, yb, db, B, .live, rfl, hT.dk, hok, fun H1 s1 => ?_⟩))⟩
      refine ⟨_, rfl, _, rfl, y3, B.Y, B.sh, rfl, hY.mono s1, hok.y, fun H2 s2 => ⟨_, rfl, fun H3 s3 => ⟨rfl, ?_⟩⟩⟩
      show Q (.bl (decide (V.str (numT (bitsOf (liveN B.Y B.sh))) = V.str (numT (bitsOf (liveN B.Y B.sh)))))) H3
      rw [decide_eq_true rfl]
      exact hq H3 ((s1.trans s2).trans s3)
    · refine ⟨_, rfl, rfl, _, rfl, ifd_f (by decide) ⟨_, rfl, rfl, _, rfl, ifd_t rfl ?_⟩⟩
      refine ⟨_, rfl, a, dx, _, rfl, ha, nos _ _, .inr (.inr (.inl ⟨a, y, b, yb, db, B, .earthed, rfl, hT.dk, hok, fun H1 s1 => ?_⟩))⟩
      refine ⟨_, rfl, _, rfl, y3, B.Y, B.sh, rfl, hY.mono s1, hok.y, fun H2 s2 => ⟨_, rfl, fun H3 s3 => ⟨rfl, ?_⟩⟩⟩
      show Q (.bl (decide (V.str (numT (bitsOf (earthN B.Y B.sh))) = V.str (numT (bitsOf (earthN B.Y B.sh)))))) H3
      rw [decide_eq_true rfl]
      exact hq H3 ((s1.trans s2).trans s3)
    · refine ⟨_, rfl, rfl, _, rfl, ifd_f (by decide) ⟨_, rfl, rfl, _, rfl, ifd_f (by decide) ⟨_, rfl, rfl, _, rfl, ifd_t rfl ?_⟩⟩⟩
      refine ⟨_, rfl, a, dx, _, rfl, ha, nos _ _, .inr (.inr (.inl ⟨a, y, b, yb, db, B, .locked, rfl, hT.dk, hok, fun H1 s1 => ?_⟩))⟩
      refine ⟨_, rfl, b2, ex, _, rfl, s1 b2 _ hb, no2, b2, yb2, db2, B, rfl, hT.bd.mono s1, _, rfl, fun H3 s3 => ⟨rfl, ?_⟩⟩
      show Q (.bl (decide (V.str (numT (bitsOf B.lk)) = V.str (numT (bitsOf B.lk))))) H3
      rw [decide_eq_true rfl]
      exact hq H3 (s1.trans s3)
    · refine ⟨_, rfl, rfl, _, rfl, ifd_f (by decide) ⟨_, rfl, rfl, _, rfl, ifd_f (by decide) ⟨_, rfl, rfl, _, rfl, ifd_f (by decide) ?_⟩⟩⟩
      refine ⟨_, rfl, a, dx, _, rfl, ha, nos _ _, .inr (.inr (.inl ⟨a, y, b, yb, db, B, .shut, rfl, hT.dk, hok, fun H1 s1 => ?_⟩))⟩
      refine ⟨_, rfl, _, rfl, fun H3 s3 => ⟨rfl, ?_⟩⟩
      show Q (.bl (decide (V.str (numT (bitsOf B.sh)) = V.str (numT (bitsOf B.sh))))) H3
      rw [decide_eq_true rfl]
      exact hq H3 (s1.trans s3)
end
end K38
namespace K38
open PySem PySem.Spec PyProof.Rows L2
theorem Dd.num_lt {B : Bd} {q : Dd} (h : q.fine B) : q.num < 10 ^ 9 := by
  cases q with
  | turn n => exact h
  | lock n => exact h
  | unlock n => exact h
  | back n => exact h
  | permit n => exact Nat.lt_trans (pow5 h.2.1 h.2.2.1) (by decide)
theorem row_two (x z : Str) : x ++ (" " : Str) ++ z = rowOf [x, z] := by
  unfold rowOf
  rw [TL.join_eq]
  refine TL.ext_tl ?_
  rw [TL.tl_append, TL.tl_append, TL.tl_join, List.append_assoc]
  rfl
theorem Dd.simple {q : Dd} (h : q.isP = false) : q.words = [q.word, tN q.num] := by cases q <;> first | rfl | cases h
theorem Dd.wd (q : Dd) : Wd q.word := by
  cases q with
  | turn n => exact wdk "turn"
  | lock n => exact wdk "lock"
  | unlock n => exact wdk "unlock"
  | back n => exact wdk "back"
  | permit n => exact wdk "permit"
theorem Dd.notP {q : Dd} (h : q.isP = false) : ¬ V.str q.word = V.str "permit" := by
  cases q with
  | turn n => exact kne "turn" "permit"
  | lock n => exact kne "lock" "permit"
  | unlock n => exact kne "unlock" "permit"
  | back n => exact kne "back" "permit"
  | permit n => cases h
theorem Dd.yesP {q : Dd} (h : q.isP = true) : ∃ n, q = .permit n := by cases q <;> first | exact ⟨_, rfl⟩ | cases h
theorem cls_sum : ∀ x ∈ rais, (fift.map fun y => if decide (x = y) = true then (1 : Int) else 0).sum = 1 := by decide +kernel
theorem bls_eqv : ∀ bs : List Bool, PyData.eqv (.list (bs.map .bool)) (.list (bs.map .bool)) = true := by
  intro bs
  simp only [PyData.eqv]
  induction bs with
  | nil => simp only [List.map_nil, PyData.eqvAll]
  | cons b bs ih => simp only [List.map_cons, PyData.eqvAll, PyData.eqv, ih, beq_self_eq_true, Bool.and_self]
theorem clsV_eq (x : Str) : clsV x = (fift.map fun y => decide (x = y)).map V.bl := by
  unfold clsV
  rw [List.map_map]
  rfl
section
variable {P : Program} {w : World} {K : PySem.W.Frag} {mg : Str → Option Value} {base : Heap}

theorem go_same (c : Ct K mg) : Go P w K mg base 15 "_law_same" (spSame K) := by
  have nd : (["desk", "board", "word", "number", "row", "due", "found", "bar", "one"] : List Str).Nodup := by decide +kernel
  refine go_of (d := d_law_same) (N := ["desk", "board", "word", "number", "row", "due", "found", "bar", "one"]) (ps := ["desk", "board", "word", "number"]) (k := 14) c 28 rfl rfl rfl rfl ⟨rfl, rfl, rfl, nd, rfl, by decide +kernel, by decide +kernel⟩ (fun _ _ _ _ _ _ us hl => match us, hl with | [_, _, _, _], _ => rfl) (fun vs H Q E h => ?_) (fun cdv A outer s H vs Q E hr h => ?_)
  · obtain ⟨_, _, _, _, _, _, _, _, _, _, rfl, _⟩ := h
    rfl
  · obtain ⟨a, y, b, yb, db, b2, yb2, db2, B, q, rfl, hT, hok, hf, hq⟩ := h
    refine ⟨_, PSs.nox (pss_cons (ps_set (i := 4) nd rfl (Or.inl rfl) (pe_op op_add_str (pe_op op_add_str (pv 2) (pe_str)) (pe_callTy call_str_int (by rfl) (c.free "str") (by decide +kernel) (pa_cons (pv 3) (pa_nil))))) (pss_cons (ps_if (pt_cmpR op_eq (pv 2) (pe_str) (nomark _)) (pss_one (ps_set (i := 4) nd rfl (Or.inl rfl) (pe_join pe_str (pe_op op_cat (pe_lst (pa_cons (pv 2) (pa_nil))) (pe_lc (own := [("bar", 7)]) (g := gName 7) rfl nd (pi_range1 rfl (c.free "range") (pa_cons (pe_int) (pa_nil))) (blkOk_by (own := [("bar", 7)]) (N := ["desk", "board", "word", "number", "row", "due", "found", "bar", "one"]) (sc := defScope s_law_same) (by decide +kernel)) (fun _ _ _ _ _ => pg_name (i := 7) nd rfl (Or.inl rfl)) (fun _ _ _ _ _ => by exact pts_one (pt_bit (pv 3) (pv 7))) (fun _ _ _ _ _ => by exact pe_callTy call_str_int (by rfl) (c.free "str") (by decide +kernel) (pa_cons (pv 7) (pa_nil)))))))) (pss_nil)) (pss_cons (ps_set (i := 5) nd rfl (Or.inl rfl) (pe_g (go_due c) hr passL (pa_cons (pv 1) (pa_cons (pv 2) (pa_cons (pv 3) (pa_nil)))))) (pss_cons (ps_set (i := 6) nd rfl (Or.inl rfl) (pe_g (go_said c) hr passL (pa_cons (pv 0) (pa_cons (pv 4) (pa_nil))))) (pss_cons (ps_if (pt_val (pe_callB call_isi (by rfl) (c.free "isinstance") PyProof.Rows.boot_isinstance (pa_cons (pv 5) (pa_cons (pe_bltn (v := .ty "list") rfl (c.free "list") (by decide +kernel : bootBuiltins "list" = some (.type "list")) rfl) (pa_nil))))) (pss_one (ps_ret (pe_and (pe_callB call_isi (by rfl) (c.free "isinstance") PyProof.Rows.boot_isinstance (pa_cons (pv 6) (pa_cons (pe_bltn (v := .ty "list") rfl (c.free "list") (by decide +kernel : bootBuiltins "list" = some (.type "list")) rfl) (pa_nil)))) (pe_and (pe_cmpR (op_eqD hr.units) (pv 6) (pv 5) (nomark _)) (pe_one (pe_cmpR op_eq (pe_callB (cr_sum rfl) (by rfl) (c.free "sum") PyProof.Rows.boot_sum (pa_cons (pe_lc (own := [("one", 8)]) (g := gName 8) (tt := tYes) rfl nd (pi_list (pv 5)) (blkOk_by (own := [("one", 8)]) (N := ["desk", "board", "word", "number", "row", "due", "found", "bar", "one"]) (sc := defScope s_law_same) (by decide +kernel)) (fun _ _ _ _ _ => pg_name (i := 8) nd rfl (Or.inl rfl)) (fun _ _ _ _ _ => pts_nil) (fun _ _ _ _ _ => by exact pe_callTy call_int1 (by rfl) (c.free "int") (by decide +kernel) (pa_cons (pv 8) (pa_nil)))) (pa_nil))) (pe_int) (nomark _))))))) (pss_nil)) (pss_one (ps_ret (pe_and (pe_callB call_isi (by rfl) (c.free "isinstance") PyProof.Rows.boot_isinstance (pa_cons (pv 6) (pa_cons (pe_bltn (v := .ty "str") rfl (c.free "str") (by decide +kernel : bootBuiltins "str" = some (.type "str")) rfl) (pa_nil)))) (pe_one (pe_cmpR op_eq (pv 6) (pv 5) (nomark _))))))))))), ?_⟩
    have h9 := Dd.num_lt hf
    have hwl := q.wd.sh
    have hnl := tN_len h9
    have s1l : (" " : Str).length = 1 := by decide +kernel
    refine ⟨_, rfl, _, _, rfl, rfl, Nat.le_trans (show q.word.length + (" " : Str).length ≤ 21 by omega) (by decide), _, rfl, _, rfl, log_small h9, _, _, rfl, rfl, ?_, ?_⟩
    · rw [tN_eq, TL.len_tl, TL.tl_append, List.length_append, ← TL.len_tl, ← TL.len_tl]
      exact Nat.le_trans (show q.word.length + (" " : Str).length + (tN q.num).length ≤ 30 by omega) (by decide)
    rw [tN_eq, row_two]
    cases hp : q.isP with
    | false =>
      rw [← Dd.simple hp]
      refine ⟨_, rfl, rfl, _, rfl, ifd_f (Dd.notP hp) ?_⟩
      have s0 := Same.refl H
      refine ⟨_, rfl, _, rfl, _, rfl, b2, yb2, db2, B, q, rfl, hT.bd.mono s0, hok, hf, ?_⟩
      cases e : q.op B with
      | ok B' =>
        have en : nxt B q = B' := by
          unfold nxt
          rw [e]
        rw [en] at hq
        obtain ⟨o1, o2, _⟩ := op_ok hok e
        intro H1 hB1 k1
        have hT0 := hT.mono s0
        have hD1 := hT0.dk.away hT0.bd k1 hT.n1 hT.n2
        refine ⟨_, rfl, _, rfl, a, y, b, yb, db, B, q, rfl, hD1, hok, hf, ?_⟩
        rw [e]
        intro H2 hB2 k2
        have hT2 : Two K H2 a y b yb db b2 yb2 db2 B' := ⟨hD1.op hB2 k2 o2, hB1.away hD1.bd k2 hT.n1.symm hT.n2.symm, hT.n1, hT.n2⟩
        have kt : KT H H2 := (Same.kt s0).trans ((hT0.bd.kt k1).trans (hD1.bd.kt k2))
        refine ⟨_, rfl, _, _, _, _, _, rfl, .ty "list", .base (.str _), kit_ty (by decide +kernel : kitB "str" "list" = some false), _, rfl, iteF ?_⟩
        refine ⟨_, rfl, _, _, _, _, _, rfl, .ty "str", .base (.str _), kit_ty (by decide +kernel : kitB "str" "str" = some true), _, rfl, iteT ⟨_, rfl, _, rfl, rfl, ?_⟩⟩
        show Q (.bl (decide (V.str (q.ans B') = V.str (q.ans B')))) H2
        rw [decide_eq_true rfl]
        exact hq H2 hT2 kt
      | error x =>
        have en : nxt B q = B := by
          unfold nxt
          rw [e]
        rw [en] at hq
        have hx := op_err e
        intro p1 H1 s1 np1 hp1
        refine ⟨_, rfl, _, rfl, a, y, b, yb, db, B, q, rfl, (hT.dk.mono s0).mono s1, hok, hf, ?_⟩
        rw [e]
        intro p2 H2 s2 np2 hp2
        have hp3 := s2 p1 _ hp1
        refine ⟨_, rfl, _, _, _, _, _, rfl, .ty "list", .base (.lst hp3), kit_ty (by decide +kernel : kitB "list" "list" = some true), _, rfl, iteT ?_⟩
        refine ⟨_, rfl, _, _, _, _, _, rfl, .ty "list", .base (.lst hp2), kit_ty (by decide +kernel : kitB "list" "list" = some true), _, rfl, iteT ?_⟩
        have fl : ∀ {p : Addr}, H2 p = some (.lst (clsV x)) → Dp K H2 (.ref p) (.list ((fift.map fun y => decide (x = y)).map .bool)) ∧ SeqAt.shaped (.list ((fift.map fun y => decide (x = y)).map .bool)) = true := fun h => fl_list (f := V.bl) (g := PyData.bool) (fun _ _ => fl_bl _) (by rw [← clsV_eq]; exact SqL.of h)
        obtain ⟨d1, d2⟩ := fl hp2
        obtain ⟨d3, d4⟩ := fl hp3
        refine ⟨_, rfl, _, rfl, _, _, d1, d3, d2, d4, _, rfl, ifT (bls_eqv _) ?_⟩
        refine ⟨_, rfl, p1, rfl, ⟨_, SqL.of hp3⟩, fun D hD => ?_⟩
        refine lc_list (a := p1) (xs := clsV x) (LcI H2 D fun i => (fift.take i).map fun y => .int (if decide (x = y) = true then 1 else 0)) (LcI.start hD rfl) (fun i H3 _ h => SqL.of (h.s p1 _ hp3)) ?_ ?_
        · intro i z H3 hz h3
          unfold clsV at hz
          rw [List.getElem?_map] at hz
          obtain ⟨u, hu, rfl⟩ := Option.map_eq_some_iff.mp hz
          refine ⟨rfl, _, rfl, .inr ⟨_, rfl, ?_⟩⟩
          refine h3.step hD (Same.refl _) (by show (fift.take (i + 1)).map (fun y => V.int (if decide (x = y) = true then 1 else 0)) = _; rw [take_more hu, List.map_append]; rfl) ?_
          rw [List.length_map, List.length_take]
          exact Nat.le_trans (Nat.min_le_right _ _) (by decide)
        · intro H3 h3
          have hD3 : H3 D = some (.lst ((fift.map fun y => if decide (x = y) = true then (1 : Int) else 0).map V.int)) := by
            have z := h3.d
            rw [show (clsV x).length = fift.length from List.length_map .., List.take_of_length_le (Nat.le_refl _)] at z
            rw [List.map_map]
            exact z
          refine ⟨D, _, rfl, SqL.of hD3, rfl, ?_⟩
          rw [cls_sum x hx]
          show Q (.bl (decide (V.int 1 = V.int 1))) H3
          rw [decide_eq_true rfl]
          exact hq H3 ((((hT.mono s0).mono s1).mono s2).mono h3.s) (Same.kt (((s0.trans s1).trans s2).trans h3.s))
    | true =>
      obtain ⟨n, rfl⟩ := Dd.yesP hp
      refine ⟨_, rfl, rfl, _, rfl, ifd_t rfl ?_⟩
      refine ⟨⟨_, rfl⟩, _, rfl, (by show 1 ≤ sizeLine; decide), fun l nl => ?_⟩
      have sl := same_new (o := .lst [.str "permit"]) nl
      refine ⟨10, rfl, by decide, by decide, fun D hD => ?_⟩
      refine lc_range (n := 10) (LcI (upd H l (.lst [.str "permit"])) D fun i => (bitsTo n i).map fun b => .str (tN b)) (LcI.start hD rfl) ?_ ?_
      · intro i H2 hi h2
        rw [Int.zero_add]
        refine ⟨rfl, _, rfl, _, rfl, n, i, rfl, rfl, _, rfl, ifb (fun hb => ?_) (fun hb => ?_)⟩
        · refine ⟨_, rfl, _, rfl, log_small (Nat.lt_trans hi (by decide)), ?_⟩
          refine h2.step hD (Same.refl _) ?_ ?_
          · show (bitsTo n (i + 1)).map (fun b => V.str (tN b)) = _
            rw [bitsTo_succ, hb, if_pos rfl, List.map_append, tN_eq]
            rfl
          · rw [List.length_map]
            exact Nat.le_trans (bitsTo_len _ _) (by omega)
        · refine ⟨h2.s, ?_⟩
          show H2 D = some (.lst ((bitsTo n (i + 1)).map fun b => V.str (tN b)))
          rw [bitsTo_succ, hb, if_neg Bool.false_ne_true, List.append_nil]
          exact h2.d
      · intro H2 h2
        have hD2 : H2 D = some (.lst (((bitsTo n 10).map tN).map V.str)) := by
          rw [List.map_map]
          exact h2.d
        have hl10 := bitsTo_len n 10
        have hl2 := h2.s l _ upd_same
        refine ⟨l, D, _, _, rfl, rfl, hl2, hD2, ?_, fun r nr => ?_⟩
        · rw [List.length_map, List.length_map]
          exact Nat.le_trans (show 1 + (bitsTo n 10).length ≤ 11 by omega) (by decide)
        · refine ⟨_, r, "permit" :: (bitsTo n 10).map tN, rfl, rfl, .inl (SqL.of upd_same), join_small (Dd.wds (q := .permit n) hf) (by rw [List.length_cons, List.length_map]; omega), ?_⟩
          have s0 := same_mut' (o := .lst (V.str "permit" :: ((bitsTo n 10).map tN).map V.str)) (sl.trans h2.s) nr
          refine ⟨_, rfl, _, rfl, _, rfl, b2, yb2, db2, B, .permit n, rfl, hT.bd.mono s0, hok, hf, ?_⟩
          generalize hqe : Dd.permit n = q at hq hf ⊢
          cases e : q.op B with
          | ok B' =>
            have en : nxt B q = B' := by
              unfold nxt
              rw [e]
            rw [en] at hq
            obtain ⟨o1, o2, _⟩ := op_ok hok e
            intro H1 hB1 k1
            have hT0 := hT.mono s0
            have hD1 := hT0.dk.away hT0.bd k1 hT.n1 hT.n2
            refine ⟨_, rfl, _, rfl, a, y, b, yb, db, B, q, (by rw [← hqe]; rfl), hD1, hok, hf, ?_⟩
            rw [e]
            intro H2 hB2 k2
            have hT2 : Two K H2 a y b yb db b2 yb2 db2 B' := ⟨hD1.op hB2 k2 o2, hB1.away hD1.bd k2 hT.n1.symm hT.n2.symm, hT.n1, hT.n2⟩
            have kt : KT H H2 := (Same.kt s0).trans ((hT0.bd.kt k1).trans (hD1.bd.kt k2))
            refine ⟨_, rfl, _, _, _, _, _, rfl, .ty "list", .base (.str _), kit_ty (by decide +kernel : kitB "str" "list" = some false), _, rfl, iteF ?_⟩
            refine ⟨_, rfl, _, _, _, _, _, rfl, .ty "str", .base (.str _), kit_ty (by decide +kernel : kitB "str" "str" = some true), _, rfl, iteT ⟨_, rfl, _, rfl, rfl, ?_⟩⟩
            show Q (.bl (decide (V.str (q.ans B') = V.str (q.ans B')))) H2
            rw [decide_eq_true rfl]
            exact hq H2 hT2 kt
          | error x =>
            have en : nxt B q = B := by
              unfold nxt
              rw [e]
            rw [en] at hq
            have hx := op_err e
            intro p1 H1 s1 np1 hp1
            refine ⟨_, rfl, _, rfl, a, y, b, yb, db, B, q, (by rw [← hqe]; rfl), (hT.dk.mono s0).mono s1, hok, hf, ?_⟩
            rw [e]
            intro p2 H2 s2 np2 hp2
            have hp3 := s2 p1 _ hp1
            refine ⟨_, rfl, _, _, _, _, _, rfl, .ty "list", .base (.lst hp3), kit_ty (by decide +kernel : kitB "list" "list" = some true), _, rfl, iteT ?_⟩
            refine ⟨_, rfl, _, _, _, _, _, rfl, .ty "list", .base (.lst hp2), kit_ty (by decide +kernel : kitB "list" "list" = some true), _, rfl, iteT ?_⟩
            have fl : ∀ {p : Addr}, H2 p = some (.lst (clsV x)) → Dp K H2 (.ref p) (.list ((fift.map fun y => decide (x = y)).map .bool)) ∧ SeqAt.shaped (.list ((fift.map fun y => decide (x = y)).map .bool)) = true := fun h => fl_list (f := V.bl) (g := PyData.bool) (fun _ _ => fl_bl _) (by rw [← clsV_eq]; exact SqL.of h)
            obtain ⟨d1, d2⟩ := fl hp2
            obtain ⟨d3, d4⟩ := fl hp3
            refine ⟨_, rfl, _, rfl, _, _, d1, d3, d2, d4, _, rfl, ifT (bls_eqv _) ?_⟩
            refine ⟨_, rfl, p1, rfl, ⟨_, SqL.of hp3⟩, fun D hD => ?_⟩
            refine lc_list (a := p1) (xs := clsV x) (LcI H2 D fun i => (fift.take i).map fun y => .int (if decide (x = y) = true then 1 else 0)) (LcI.start hD rfl) (fun i H3 _ h => SqL.of (h.s p1 _ hp3)) ?_ ?_
            · intro i z H3 hz h3
              unfold clsV at hz
              rw [List.getElem?_map] at hz
              obtain ⟨u, hu, rfl⟩ := Option.map_eq_some_iff.mp hz
              refine ⟨rfl, _, rfl, .inr ⟨_, rfl, ?_⟩⟩
              refine h3.step hD (Same.refl _) (by show (fift.take (i + 1)).map (fun y => V.int (if decide (x = y) = true then 1 else 0)) = _; rw [take_more hu, List.map_append]; rfl) ?_
              rw [List.length_map, List.length_take]
              exact Nat.le_trans (Nat.min_le_right _ _) (by decide)
            · intro H3 h3
              have hD3 : H3 D = some (.lst ((fift.map fun y => if decide (x = y) = true then (1 : Int) else 0).map V.int)) := by
                have z := h3.d
                rw [show (clsV x).length = fift.length from List.length_map .., List.take_of_length_le (Nat.le_refl _)] at z
                rw [List.map_map]
                exact z
              refine ⟨D, _, rfl, SqL.of hD3, rfl, ?_⟩
              rw [cls_sum x hx]
              show Q (.bl (decide (V.int 1 = V.int 1))) H3
              rw [decide_eq_true rfl]
              exact hq H3 ((((hT.mono s0).mono s1).mono s2).mono h3.s) (Same.kt (((s0.trans s1).trans s2).trans h3.s))
end
end K38
namespace K38
open PySem PySem.Spec PyProof.Rows L2
/-! ### what the law draws -/
theorem sqUp {K : PySem.W.Frag} {H H' : Hp} {a : Addr} {xs : List V} (h : SqL K H a xs) (s : Same H H') : SqL K H' a xs := h.elim (fun h => .inl (h.elim (fun h => .inl (s _ _ h)) fun ⟨o, h⟩ => .inr ⟨o, s _ _ h⟩)) fun h => .inr h
theorem ipos {j : Int} (h : decide (0 < j) = true := by decide) : 0 < j := of_decide_eq_true h
section
variable {X : Cx}
theorem ix_listK (K : PySem.W.Frag) (hK : X.K = K := by rfl) : IxR X (rIxL K) := by
  subst hK
  exact ix_list
theorem ix_tupK (K : PySem.W.Frag) (hK : X.K = K := by rfl) : IxR X (rIxT K) := by
  subst hK
  exact ix_tup
theorem cr_sumK (K : PySem.W.Frag) (hc : X.calm = true) (hK : X.K = K := by rfl) : CallR X (.builtin "sum") (rSum K) := by
  subst hK
  exact cr_sum hc
theorem pe_slice3K {e : Expr} {lo hi : Option Expr} {st : Expr} {te : TE} {tl th ts : TO} {p2 pos : Pos} (K : PySem.W.Frag) (he : PE X e te) (hl : PO X lo tl) (hu : PO X hi th) (hst : PO X (some st) ts) (hK : X.K = K := by rfl)
    (hsub : ∀ v u : Value, subscripted (.Slice lo hi (some st) p2) false v u = operate [v, u] (getItem v u) := by intro _ _; with_unfolding_all rfl) : PE X (.Subscript e (.Slice lo hi (some st) p2) pos) (tSl3 K te tl th ts) := by
  subst hK
  exact pe_slice3 he hl hu hst hsub
theorem op_eqDK (K : PySem.W.Frag) (hu : X.A.units + 64 < cLine) (hK : X.K = K := by rfl) : OpR X (compareOp .Eq) (rEqD K) := by
  subst hK
  exact op_eqD hu
end
theorem nat_of {i : Int} (h : 0 ≤ i) : V.int i = vN i.toNat := congrArg V.int (Int.toNat_of_nonneg h).symm
theorem ints_of {ys : List V} {ns : List Int} (h : ∀ y ∈ ys, y ∈ ns.map V.int) : ∃ ms : List Int, ys = ms.map V.int ∧ ∀ m ∈ ms, m ∈ ns := by
  induction ys with
  | nil => exact ⟨[], rfl, fun _ h => absurd h List.not_mem_nil⟩
  | cons y ys ih =>
    obtain ⟨ms, e, hm⟩ := ih fun z hz => h z (List.mem_cons_of_mem _ hz)
    obtain ⟨i, hi, rfl⟩ := List.mem_map.mp (h y List.mem_cons_self)
    refine ⟨i :: ms, by rw [e]; rfl, fun m hm2 => ?_⟩
    rcases List.mem_cons.mp hm2 with rfl | hm2
    · exact hi
    · exact hm m hm2
def spDraw (K : PySem.W.Frag) : Sp := fun vs H Q _ => ∃ (s : Addr) (ns : List Int) (k : Nat), vs = [.ref s, vN k] ∧ SqL K H s (ns.map V.int) ∧ ns.length ≤ 63 ∧ k ≤ 100 ∧ ∀ (n : Nat) (H' : Hp), Same H H' → n < 999999000001 → Q (vN n) H'
def spSwDraw : Sp := fun vs H Q _ => ∃ (i : Int) (n : Nat), vs = [.int i, vN n] ∧ 2 ≤ n ∧ n ≤ 5 ∧ ∀ (p : Addr) (H' : Hp) (sw : Sw), Same H H' → H p = none → H' p = some (.tup sw.parts) → sw.ok n → Q (.ref p) H'
def spYardDraw (K : PySem.W.Frag) : Sp := fun vs H Q _ => ∃ (s : Addr) (ns : List Int), vs = [.ref s] ∧ SqL K H s (ns.map V.int) ∧ ns.length ≤ 63 ∧ ∀ (y : Addr) (Y : Yard) (H' : Hp), Same H H' → H y = none → YH H' y Y → 2 ≤ Y.1 → Y.1 ≤ 5 → YOk Y → Q (.ref y) H'
section
variable {P : Program} {w : World} {K : PySem.W.Frag} {mg : Str → Option Value} {base : Heap}
theorem go_draw (c : Ct K mg) : Go P w K mg base 1 "_law_draw" (spDraw K) := by
  have nd : (["script", "k", "step", "found", "cell"] : List Str).Nodup := by decide +kernel
  refine go_of (d := d_law_draw) (N := ["script", "k", "step", "found", "cell"]) (ps := ["script", "k"]) (k := 0) c 21 rfl rfl rfl rfl ⟨rfl, rfl, rfl, nd, rfl, by decide +kernel, by decide +kernel⟩ (fun _ _ _ _ _ _ us hl => match us, hl with | [_, _], _ => rfl) (fun vs H Q E h => ?_) (fun cdv A outer s H vs Q E hr h => ?_)
  · obtain ⟨s, ns, k, rfl, _⟩ := h
    rfl
  · obtain ⟨sc, ns, k, rfl, hs, h63, hk, hq⟩ := h
    refine ⟨_, PSs.nox (pss_cons (ps_set (i := 2) nd rfl (Or.inl rfl) (pe_op op_add (pe_int) (pe_op op_fdiv (pe_callB call_len_seq (by rfl) (c.free "len") PySem.boot_len (pa_cons (pv 0) pa_nil)) (pe_int)))) (pss_cons (ps_set (i := 3) nd rfl (Or.inl rfl) (pe_op op_add (pe_op op_mul (pe_int) (pv 1)) (pe_int))) (pss_cons (ps_for PassesOwn.never rfl (pi_list (pe_slice3 (pv 0) (po_some (pe_op op_mod (pv 1) (pv 2))) po_none (po_some (pv 2)))) (pg_name (i := 4) nd rfl (Or.inl rfl)) (pss_one (ps_set (i := 3) nd rfl (Or.inl rfl) (pe_op op_mod (pe_op op_add (pe_op op_mul (pv 3) (pe_op op_add (pe_op op_mul (pe_int) (pv 1)) (pe_int))) (pv 4)) (pe_int))))) (pss_one (ps_ret (pe_op op_mod (pe_op op_mul (pv 3) (pe_op op_add (pe_op op_add (pe_op op_mod (pe_op op_fdiv (pv 3) (pe_int)) (pe_int)) (pe_op op_mul (pe_int) (pv 1))) (pe_int))) (pe_int))))))), ?_⟩
    have hst : 0 < 1 + (((ns.map V.int).length : Nat) : Int) / 8 := by omega
    refine ⟨_, rfl, sc, _, rfl, .inl hs, _, _, rfl, rfl, ⟨by decide, by decide⟩, _, _, rfl, rfl, ?_⟩
    refine ⟨_, rfl, _, _, rfl, rfl, .inl ⟨by decide, by decide⟩, _, _, rfl, rfl, ?_⟩
    refine ⟨_, rfl, _, rfl, _, rfl, _, _, rfl, rfl, hst, _, rfl, _, rfl, _, rfl, fun e => ?_, sc, _, rfl, hs, fun ys p hl hm np => ?_⟩
    · have := Option.some.inj e
      omega
    obtain ⟨ms, rfl, _⟩ := ints_of hm
    refine ⟨p, rfl, ⟨_, SqL.of upd_same⟩, ?_⟩
    have e0 : V.int (31 * (k : Int) + 5) = vN (31 * k + 5) := congrArg V.int (by omega)
    refine for_list (a := p) (xs := ms.map V.int) (fun i σ H3 => ∃ (f : Nat) (v4 : Option V), f < 999999000001 ∧ σ = [some (.ref sc), some (vN k), some (.int (1 + (((ns.map V.int).length : Nat) : Int) / 8)), some (vN f), v4] ∧ H3 = upd H p (.lst (ms.map V.int)))
      ⟨31 * k + 5, none, by omega, by rw [← e0]; rfl, rfl⟩ (fun i σ H3 _ h => by obtain ⟨_, _, _, _, rfl⟩ := h; exact SqL.of upd_same) ?_ ?_
    · rintro i x σ H3 hx ⟨f, v4, hf, rfl, rfl⟩
      rw [List.getElem?_map] at hx
      obtain ⟨z, hz, rfl⟩ := Option.map_eq_some_iff.mp hx
      refine ⟨_, rfl, _, rfl, _, _, rfl, rfl, .inl ⟨by decide, by decide⟩, _, _, rfl, rfl, _, _, rfl, rfl, .inl ⟨by omega, by omega⟩, _, rfl, _, _, rfl, rfl, _, _, rfl, rfl, ipos, ?_⟩
      have hm0 := Int.emod_nonneg ((f : Int) * (2 * (k : Int) + 1013) + z) (show (999999000001 : Int) ≠ 0 by decide)
      have hm1 := Int.emod_lt_of_pos ((f : Int) * (2 * (k : Int) + 1013) + z) (show (0 : Int) < 999999000001 by decide)
      refine ⟨(((f : Int) * (2 * (k : Int) + 1013) + z) % 999999000001).toNat, some (.int z), by omega, ?_, rfl⟩
      rw [← nat_of hm0]
      rfl
    · rintro σ H3 ⟨f, v4, hf, rfl, rfl⟩
      refine ⟨_, rfl, _, rfl, _, _, rfl, rfl, ⟨by decide, by decide⟩, _, _, rfl, rfl, ipos, _, rfl, _, _, rfl, rfl, .inl ⟨by decide, by decide⟩, _, _, rfl, rfl, _, _, rfl, rfl, _, _, rfl, rfl, .inl ⟨by omega, by omega⟩, _, _, rfl, rfl, ipos, ?_⟩
      have hm0 := Int.emod_nonneg ((f : Int) * ((f : Int) / 7 % 99991 + 3 * (k : Int) + 1)) (show (999999000001 : Int) ≠ 0 by decide)
      have hm1 := Int.emod_lt_of_pos ((f : Int) * ((f : Int) / 7 % 99991 + 3 * (k : Int) + 1)) (show (0 : Int) < 999999000001 by decide)
      show Q (V.int (((f : Int) * ((f : Int) / 7 % 99991 + 3 * (k : Int) + 1)) % 999999000001)) _
      rw [nat_of hm0]
      exact hq _ _ (same_new np) (by omega)
theorem go_swdraw (c : Ct K mg) : Go P w K mg base 1 "_law_switch" spSwDraw := by
  have nd : (["cell", "bars", "one", "other"] : List Str).Nodup := by decide +kernel
  refine go_of (d := d_law_switch) (N := ["cell", "bars", "one", "other"]) (ps := ["cell", "bars"]) (k := 0) c 22 rfl rfl rfl rfl ⟨rfl, rfl, rfl, nd, rfl, by decide +kernel, by decide +kernel⟩ (fun _ _ _ _ _ _ us hl => match us, hl with | [_, _], _ => rfl) (fun vs H Q E h => ?_) (fun cdv A outer s H vs Q E hr h => ?_)
  · obtain ⟨i, n, rfl, _⟩ := h
    rfl
  · obtain ⟨z, n, rfl, h2, h5, hq⟩ := h
    refine ⟨_, PSs.nox (pss_cons (ps_set (i := 2) nd rfl (Or.inl rfl) (pe_op op_mod (pe_op op_fdiv (pv 0) (pe_int)) (pv 1))) (pss_cons (ps_if (pt_cmpR op_lt (pe_op op_mod (pv 0) (pe_int)) (pe_int) (nomark _)) (pss_one (ps_ret (pe_tup (pa_cons (pe_ix ix_list (pe_lst (pa_cons (pe_str) (pa_cons (pe_str) (pa_cons (pe_str) (pa_nil))))) (pe_op op_mod (pv 0) (pe_int)) (fun _ _ => rfl)) (pa_cons (pv 2) (pa_nil)))))) (pss_nil)) (pss_cons (ps_set (i := 3) nd rfl (Or.inl rfl) (pe_op op_mod (pe_op op_add (pe_op op_add (pv 2) (pe_int)) (pe_op op_mod (pe_op op_fdiv (pv 0) (pe_int)) (pe_op op_sub (pv 1) (pe_int)))) (pv 1))) (pss_one (ps_ret (pe_tup (pa_cons (pe_ix ix_list (pe_lst (pa_cons (pe_str) (pa_cons (pe_str) (pa_cons (pe_str) (pa_nil))))) (pe_op op_sub (pe_op op_mod (pv 0) (pe_int)) (pe_int)) (fun _ _ => rfl)) (pa_cons (pv 2) (pa_cons (pv 3) (pa_nil)))))))))), ?_⟩
    have hn : (0 : Int) < n := by omega
    refine ⟨_, rfl, _, _, rfl, rfl, ⟨by decide, by decide⟩, _, rfl, _, _, rfl, rfl, hn, ?_⟩
    have a0 := Int.emod_nonneg (z / 6) (show (n : Int) ≠ 0 by omega)
    have a1 := Int.emod_lt_of_pos (z / 6) hn
    refine ⟨_, rfl, _, _, rfl, rfl, ipos, _, _, rfl, rfl, _, rfl, ?_⟩
    have z0 := Int.emod_nonneg z (show (6 : Int) ≠ 0 by decide)
    have z1 := Int.emod_lt_of_pos z (show (0 : Int) < 6 by decide)
    by_cases h3 : z % 6 < 3
    · obtain ⟨k, sw, j, e1, e2, e3, e4⟩ : ∃ (k : Str) (sw : Sw) (j : Nat), z % 6 = (j : Int) ∧ ([.str "feed", .str "earth", .str "earth"] : List V)[j]? = some (.str k) ∧ sw.parts = [.str k, .int (z / 6 % (n : Int))] ∧ sw.ok n := by
        rw [nat_of a0]
        have : z % 6 = 0 ∨ z % 6 = 1 ∨ z % 6 = 2 := by omega
        rcases this with e | e | e
        · exact ⟨"feed", .feed (z / 6 % (n : Int)).toNat, 0, e, rfl, rfl, by show _ < n; omega⟩
        · exact ⟨"earth", .earth (z / 6 % (n : Int)).toNat, 1, e, rfl, rfl, by show _ < n; omega⟩
        · exact ⟨"earth", .earth (z / 6 % (n : Int)).toNat, 2, e, rfl, rfl, by show _ < n; omega⟩
      refine ifT (decide_eq_true h3) ⟨(by show 3 ≤ sizeLine; decide), fun l nl => ?_⟩
      refine ⟨_, rfl, _, _, rfl, rfl, ipos, l, _, z % 6, .str k, rfl, rfl, SqL.of upd_same, (by rw [e1]; exact atI_nat e2), _, rfl, (by show 2 ≤ sizeLine; decide), fun p np => ?_⟩
      exact hq p _ sw (same_mut' (same_new nl) np) ((same_new nl).free np) (by rw [e3]; exact upd_same) e4
    · refine ifF (decide_eq_false h3) ?_
      have hn1 : (0 : Int) < (n : Int) - 1 := by omega
      refine ⟨_, rfl, _, _, rfl, rfl, _, rfl, _, _, rfl, rfl, ⟨by decide, by decide⟩, _, rfl, _, _, rfl, rfl, _, _, rfl, rfl, hn1, _, _, rfl, rfl, _, rfl, _, _, rfl, rfl, hn, ?_⟩
      have b0 := Int.emod_nonneg (z / 6 % (n : Int) + 1 + z / 60 % ((n : Int) - 1)) (show (n : Int) ≠ 0 by omega)
      have b1 := Int.emod_lt_of_pos (z / 6 % (n : Int) + 1 + z / 60 % ((n : Int) - 1)) hn
      have hne : ¬ z / 6 % (n : Int) = (z / 6 % (n : Int) + 1 + z / 60 % ((n : Int) - 1)) % (n : Int) := by
        have : n = 2 ∨ n = 3 ∨ n = 4 ∨ n = 5 := by omega
        rcases this with rfl | rfl | rfl | rfl <;> omega
      obtain ⟨k, sw, j, e1, e2, e3, e4⟩ : ∃ (k : Str) (sw : Sw) (j : Nat), z % 6 - 3 = (j : Int) ∧ ([.str "breaker", .str "splitter", .str "breaker"] : List V)[j]? = some (.str k) ∧ sw.parts = [.str k, .int (z / 6 % (n : Int)), .int ((z / 6 % (n : Int) + 1 + z / 60 % ((n : Int) - 1)) % (n : Int))] ∧ sw.ok n := by
        rw [nat_of a0, nat_of b0]
        have : z % 6 - 3 = 0 ∨ z % 6 - 3 = 1 ∨ z % 6 - 3 = 2 := by omega
        have hok : (z / 6 % (n : Int)).toNat < n ∧ ((z / 6 % (n : Int) + 1 + z / 60 % ((n : Int) - 1)) % (n : Int)).toNat < n ∧ (z / 6 % (n : Int)).toNat ≠ ((z / 6 % (n : Int) + 1 + z / 60 % ((n : Int) - 1)) % (n : Int)).toNat := ⟨by omega, by omega, by omega⟩
        rcases this with e | e | e
        · exact ⟨"breaker", .brk (z / 6 % (n : Int)).toNat ((z / 6 % (n : Int) + 1 + z / 60 % ((n : Int) - 1)) % (n : Int)).toNat, 0, e, rfl, rfl, hok⟩
        · exact ⟨"splitter", .spl (z / 6 % (n : Int)).toNat ((z / 6 % (n : Int) + 1 + z / 60 % ((n : Int) - 1)) % (n : Int)).toNat, 1, e, rfl, rfl, hok⟩
        · exact ⟨"breaker", .brk (z / 6 % (n : Int)).toNat ((z / 6 % (n : Int) + 1 + z / 60 % ((n : Int) - 1)) % (n : Int)).toNat, 2, e, rfl, rfl, hok⟩
      refine ⟨(by show 3 ≤ sizeLine; decide), fun l nl => ?_⟩
      refine ⟨_, rfl, _, _, rfl, rfl, ipos, _, _, rfl, rfl, l, _, z % 6 - 3, .str k, rfl, rfl, SqL.of upd_same, (by rw [e1]; exact atI_nat e2), _, rfl, _, rfl, (by show 3 ≤ sizeLine; decide), fun p np => ?_⟩
      exact hq p _ sw (same_mut' (same_new nl) np) ((same_new nl).free np) (by rw [e3]; exact upd_same) e4
theorem go_yard (c : Ct K mg) : Go P w K mg base 2 "_law_yard" (spYardDraw K) := by
  have nd : (["script", "bars", "many", "k"] : List Str).Nodup := by decide +kernel
  refine go_of (d := d_law_yard) (N := ["script", "bars", "many", "k"]) (ps := ["script"]) (k := 1) c 23 rfl rfl rfl rfl ⟨rfl, rfl, rfl, nd, rfl, by decide +kernel, by decide +kernel⟩ (fun _ _ _ _ _ _ us hl => match us, hl with | [_], _ => rfl) (fun vs H Q E h => ?_) (fun cdv A outer s H vs Q E hr h => ?_)
  · obtain ⟨s, ns, rfl, _⟩ := h
    rfl
  · obtain ⟨sc, ns, rfl, hs, h63, hq⟩ := h
    refine ⟨_, PSs.nox (pss_cons (ps_set (i := 1) nd rfl (Or.inr rfl) (pe_op op_add (pe_int) (pe_op op_mod (pe_g (go_draw c) hr passL (pa_cons (pv 0) (pa_cons (pe_int) (pa_nil)))) (pe_int)))) (pss_cons (ps_set (i := 2) nd rfl (Or.inl rfl) (pe_op op_mod (pe_g (go_draw c) hr passL (pa_cons (pv 0) (pa_cons (pe_int) (pa_nil)))) (pe_int))) (pss_one (ps_ret (pe_tup (pa_cons (pv 1) (pa_cons (pe_lc (own := [("k", 3)]) (g := gName 3) (tt := tYes) rfl nd (pi_range1 rfl (c.free "range") (pa_cons (pv 2) (pa_nil))) (blkOk_by (own := [("k", 3)]) (N := ["script", "bars", "many", "k"]) (sc := defScope s_law_yard) (by decide +kernel)) (fun _ _ _ _ _ => pg_name (i := 3) nd rfl (Or.inl rfl)) (fun _ _ _ _ _ => pts_nil) (fun _ _ _ _ _ => by exact pe_g (go_swdraw c) hr passL (pa_cons (pe_op op_add (pe_callB (cr_sumK K rfl) (by rfl) (c.free "sum") PyProof.Rows.boot_sum (pa_cons (pe_slice3K K (pv 0) (po_some (pv 3)) (po_some pe_int) (po_some pe_int)) (pa_nil))) (pe_g (go_draw c) hr passL (pa_cons (pv 0) (pa_cons (pe_op op_add (pe_int) (pv 3)) (pa_nil))))) (pa_cons (pv 1) (pa_nil))))) (pa_nil)))))))), ?_⟩
    refine ⟨_, rfl, sc, ns, 0, rfl, hs, h63, by decide, fun d1 H1 s1 _ => ⟨_, _, rfl, rfl, ipos, _, _, rfl, rfl, ?_⟩⟩
    have e1 : V.int (2 + (d1 : Int) % 4) = vN (2 + d1 % 4) := congrArg V.int (by omega)
    refine ⟨_, rfl, sc, ns, 1, rfl, sqUp hs s1, h63, by decide, fun d2 H2 s2 _ => ⟨_, _, rfl, rfl, ipos, ?_⟩⟩
    have s12 := s1.trans s2
    have m0 := Int.emod_nonneg (d2 : Int) (show (13 : Int) ≠ 0 by decide)
    have m1 := Int.emod_lt_of_pos (d2 : Int) (show (0 : Int) < 13 by decide)
    refine ⟨_, rfl, _, rfl, (d2 : Int) % 13, rfl, Int.le_trans (by decide) m0, Int.lt_trans m1 (by decide), fun D hD => ?_⟩
    refine lc_range (n := ((d2 : Int) % 13).toNat) (fun i H' => Same H2 H' ∧ ∃ us sws, H' D = some (.lst us) ∧ All2 (SwAt H') us sws ∧ us.length = i ∧ ∀ s ∈ sws, s.ok (2 + d1 % 4)) ⟨same_new hD, [], [], upd_same, trivial, rfl, fun _ h => absurd h List.not_mem_nil⟩ ?_ ?_
    · rintro i H3 hi ⟨s3, us, sws, hD3, ha, hl, hok⟩
      refine ⟨rfl, _, rfl, _, rfl, _, rfl, _, rfl, _, rfl, (fun e => by have := Option.some.inj e; omega), sc, _, rfl, sqUp hs (s12.trans s3), fun ys p hlen hm np => ?_⟩
      obtain ⟨ms, rfl, _⟩ := ints_of hm
      have e2 : V.int (20 + (0 + (i : Int))) = vN (20 + i) := congrArg V.int (by omega)
      refine ⟨p, ms, rfl, SqL.of upd_same, _, rfl, _, rfl, _, _, rfl, rfl, sc, ns, 20 + i, ?_, sqUp (sqUp hs (s12.trans s3)) (same_new np), h63, by omega, fun d3 H4 s4 _ => ?_⟩
      · show [V.ref sc, V.int (20 + (0 + (i : Int)))] = _
        rw [e2]
      refine ⟨_, _, rfl, rfl, _, rfl, ms.sum + (d3 : Int), 2 + d1 % 4, ?_, by omega, by omega, fun t H5 sw s5 nt ht hsw => ?_⟩
      · show [_, V.int (2 + (d1 : Int) % 4)] = _
        rw [e1]
      have s35 : Same H3 H5 := ((same_new np).trans s4).trans s5
      refine ⟨us, s35 D _ hD3, by rw [hl]; exact small1000 (by omega), same_mut (s3.trans s35) hD, us ++ [.ref t], sws ++ [sw], upd_same, ?_, by rw [List.length_append, hl]; rfl, ?_⟩
      · have tD : t ≠ D := ne_of ht (s35 D _ hD3) (by intro z; cases z)
        refine All2.snoc (ha.mono fun v u ⟨t2, e, q⟩ => ⟨t2, e, ?_⟩) ⟨t, rfl, by rw [upd_ne tD]; exact ht⟩
        rw [upd_ne (ne_of q hD3 (by intro z; cases z))]
        exact s35 t2 _ q
      · intro z hz
        rcases List.mem_append.mp hz with hz | hz
        · exact hok z hz
        · rw [List.mem_singleton.mp hz]
          exact hsw
    · rintro H3 ⟨s3, us, sws, hD3, ha, hl, hok⟩
      have hl2 := ha.len
      refine ⟨(by show 2 ≤ sizeLine; decide), fun y ny => ?_⟩
      have sy := s12.trans s3
      refine hq y (2 + d1 % 4, sws) _ (same_mut' sy ny) (sy.free ny) ⟨D, us, ⟨?_, ?_, ?_⟩⟩ (Nat.le_add_right _ _) (by show 2 + d1 % 4 ≤ 5; omega) ⟨by show 2 + d1 % 4 ≤ 10; omega, by show sws.length ≤ 12; omega, hok⟩
      · show _ = some (HO.tup [vN (2 + d1 % 4), .ref D])
        rw [← e1]
        exact upd_same
      · rw [upd_ne (ne_of_none hD3 ny)]
        exact hD3
      · exact ha.mono fun v u ⟨t2, e, q⟩ => ⟨t2, e, same_new ny t2 _ q⟩
end
end K38
namespace K38
open PySem PySem.Spec PyProof.Rows L2
/-! ### lists of deeds -/
def Dd.fit (Y : Yard) : Dd → Prop
  | .permit n => 1 ≤ n ∧ n < 2 ^ Y.1
  | .turn n => n < 10 ^ 9
  | .lock n => n < 10 ^ 9
  | .unlock n => n < 10 ^ 9
  | .back n => n < 10 ^ 9
theorem Dd.fit.fine {B : Bd} {q : Dd} (h : q.fit B.Y) (h5 : B.Y.1 ≤ 5) (hl : B.last ≤ 100000) : q.fine B := by
  cases q with
  | permit n => exact ⟨h.1, h.2, h5, hl⟩
  | turn n => exact h
  | lock n => exact h
  | unlock n => exact h
  | back n => exact h
def DdAt (H : Hp) (v : V) (q : Dd) : Prop := ∃ t : Addr, v = .ref t ∧ H t = some (.tup [.str q.word, vN q.num])
def DsAt (H : Hp) (p : Addr) (qs : List Dd) : Prop := ∃ us, H p = some (.lst us) ∧ All2 (DdAt H) us qs
structure PrI (H : Hp) (Y : Yard) (l : Addr) (n : Nat) (H' : Hp) : Prop where
  s : Same H H'
  d : ∃ qs, DsAt H' l qs ∧ (∀ q ∈ qs, q.fit Y) ∧ qs.length ≤ n
theorem DdAt.mono {H H' : Hp} {v : V} {q : Dd} (h : DdAt H v q) (s : ∀ t xs, H t = some (.tup xs) → H' t = some (.tup xs)) : DdAt H' v q := by
  obtain ⟨t, e, h⟩ := h
  exact ⟨t, e, s t _ h⟩
theorem PrI.mono {H H' H2 : Hp} {Y : Yard} {l : Addr} {n : Nat} (h : PrI H Y l n H') (s : Same H' H2) : PrI H Y l n H2 := by
  obtain ⟨s1, qs, ⟨us, h1, h2⟩, h3, h4⟩ := h
  exact ⟨s1.trans s, qs, ⟨us, s l _ h1, h2.mono fun _ _ h => h.mono fun t xs e => s t _ e⟩, h3, h4⟩
theorem PrI.nil {H H' : Hp} {Y : Yard} {l : Addr} (s : Same H H') (hl : H' l = none) : PrI H Y l 0 (upd H' l (.lst [])) := ⟨same_mut' s hl, [], ⟨[], upd_same, trivial⟩, fun _ h => absurd h List.not_mem_nil, Nat.le_refl 0⟩
theorem PrI.app {H H' H2 : Hp} {Y : Yard} {l t : Addr} {n : Nat} {q : Dd} (h : PrI H Y l n H') (s : Same H' H2) (hl : H l = none) (ht : H2 t = some (.tup [.str q.word, vN q.num])) (hf : q.fit Y) (hn : n ≤ 1000) :
    ∃ xs, H2 l = some (.lst xs) ∧ xs.length < sizeLine ∧ PrI H Y l (n + 1) (upd H2 l (.lst (xs ++ [.ref t]))) := by
  obtain ⟨s1, qs, ⟨us, h1, h2⟩, h3, h4⟩ := h
  have e1 := s l _ h1
  refine ⟨us, e1, by rw [h2.len]; exact small1000 (Nat.le_trans h4 hn), same_mut (s1.trans s) hl, qs ++ [q], ⟨_, upd_same, ?_⟩, ?_, ?_⟩
  · refine All2.snoc (h2.mono fun _ _ h => h.mono fun u xs e => ?_) ⟨t, rfl, ?_⟩
    · rw [upd_ne (ne_of e h1 (by intro z; cases z))]
      exact s u _ e
    · rw [upd_ne (ne_of ht e1 (by intro z; cases z))]
      exact ht
  · intro x hx
    rcases List.mem_append.mp hx with hx | hx
    · exact h3 x hx
    · rw [List.mem_singleton.mp hx]
      exact hf
  · rw [List.length_append, List.length_singleton]
    omega
theorem All2.cat {α β : Type} {R : α → β → Prop} : ∀ {l : List α} {m : List β} {l2 : List α} {m2 : List β}, All2 R l m → All2 R l2 m2 → All2 R (l ++ l2) (m ++ m2)
  | [], [], _, _, _, h => h
  | a :: l, b :: m, _, _, h, h2 => ⟨h.1, All2.cat h.2 h2⟩
  | [], _ :: _, _, _, h, _ => h.elim
  | _ :: _, [], _, _, h, _ => h.elim
theorem PrI.cat {H H' : Hp} {Y : Yard} {l m : Addr} {n k : Nat} (h : PrI H Y l n H') (g : PrI H Y m k H') (hn : n + k ≤ 1000) :
    ∃ xs zs, H' l = some (.lst xs) ∧ H' m = some (.lst zs) ∧ xs.length + zs.length ≤ sizeLine ∧ ∀ r, H' r = none → PrI H Y r (n + k) (upd H' r (.lst (xs ++ zs))) := by
  obtain ⟨s1, qs, ⟨us, h1, h2⟩, h3, h4⟩ := h
  obtain ⟨_, rs, ⟨vs, g1, g2⟩, g3, g4⟩ := g
  refine ⟨us, vs, h1, g1, ?_, fun r nr => ⟨same_mut' s1 nr, qs ++ rs, ⟨_, upd_same, (h2.cat g2).mono fun _ _ h => h.mono fun u xs e => same_new nr u _ e⟩, ?_, ?_⟩⟩
  · rw [h2.len, g2.len]
    exact Nat.le_of_lt (small1000 (by omega))
  · intro x hx
    rcases List.mem_append.mp hx with hx | hx
    · exact h3 x hx
    · exact g3 x hx
  · rw [List.length_append]
    omega
def spNumbered : Sp := fun vs H Q _ => ∃ (i : Int) (y : Addr) (Y : Yard), vs = [.int i, .ref y] ∧ YH H y Y ∧ 2 ≤ Y.1 ∧ YOk Y ∧ ∀ (p : Addr) (H' : Hp), PrI H Y p 100 H' → H p = none → Q (.ref p) H'
theorem ds_one {H H' : Hp} {Y : Yard} {t p : Addr} {q : Dd} {x : Str} {v : V} (s : Same H H') (hx : x = q.word) (hv : v = vN q.num) (nt : H' t = none) (np : upd H' t (.tup [.str x, v]) p = none) (hf : q.fit Y) :
    PrI H Y p 100 (upd (upd H' t (.tup [.str x, v])) p (.lst [.ref t])) := by
  subst hx hv
  exact ⟨same_mut' (same_mut' s nt) np, [q], ⟨_, upd_same, ⟨t, rfl, by rw [upd_ne (ne_of_none upd_same np)]; exact upd_same⟩, trivial⟩, fun x hx => by rw [List.mem_singleton.mp hx]; exact hf, by show 1 ≤ 100; decide⟩
section
variable {X : Cx}
theorem opn_bshl : OpR X (binaryOp .LShift) (fun x y H Q => ∃ b k : Nat, x = .int (b : Int) ∧ y = .int (k : Int) ∧ b ≤ 1 ∧ k ≤ 1000 ∧ Q (.int ((b * 2 ^ k : Nat) : Int)) H) := by
  intro pins s σ H x y v u Q inv rx ry hq
  obtain ⟨b, k, h1, h2, h3, h4, q⟩ := hq
  refine op_shl pins s σ H x y v u Q inv rx ry ⟨(b : Int), (k : Int), h1, h2, ⟨by omega, by omega, by omega⟩, ?_⟩
  have e : (b : Int) * 2 ^ (k : Int).toNat = ((b * 2 ^ k : Nat) : Int) := by
    rw [Int.toNat_natCast, Int.natCast_mul]
    exact congrArg ((b : Int) * ·) (Int.natCast_pow 2 k).symm
  show Q (V.int ((b : Int) * 2 ^ (k : Int).toNat)) H
  rw [e]
  exact q
end
theorem vint (i : Int) (h : 0 ≤ i) : V.int i = .int (i.toNat : Int) := congrArg V.int (Int.toNat_of_nonneg h).symm
section
variable {P : Program} {w : World} {K : PySem.W.Frag} {mg : Str → Option Value} {base : Heap}
theorem go_numbered (c : Ct K mg) : Go P w K mg base 1 "_law_numbered" spNumbered := by
  have nd : (["cell", "yard", "word", "rest"] : List Str).Nodup := by decide +kernel
  refine go_of (d := d_law_numbered) (N := ["cell", "yard", "word", "rest"]) (ps := ["cell", "yard"]) (k := 0) c 31 rfl rfl rfl rfl ⟨rfl, rfl, rfl, nd, rfl, by decide +kernel, by decide +kernel⟩ (fun _ _ _ _ _ _ us hl => match us, hl with | [_, _], _ => rfl) (fun vs H Q E h => ?_) (fun cdv A outer s H vs Q E hr h => ?_)
  · obtain ⟨i, y, Y, rfl, _⟩ := h
    rfl
  · obtain ⟨z, y, Y, rfl, ⟨l, us, hA⟩, hY2, hok, hq⟩ := h
    refine ⟨_, PSs.nox (pss_cons (ps_set (i := 2) nd rfl (Or.inl rfl) (pe_ix ix_list (pe_lst (pa_cons (pe_str) (pa_cons (pe_str) (pa_cons (pe_str) (pa_cons (pe_str) (pa_cons (pe_str) (pa_cons (pe_str) (pa_cons (pe_str) (pa_cons (pe_str) (pa_nil)))))))))) (pe_op op_mod (pv 0) (pe_int)) (fun _ _ => rfl))) (pss_cons (ps_set (i := 3) nd rfl (Or.inl rfl) (pe_op op_fdiv (pv 0) (pe_int))) (pss_cons (ps_if (pt_cmpR op_eq (pv 2) (pe_str) (nomark _)) (pss_one (ps_ret (pe_lst (pa_cons (pe_tup (pa_cons (pv 2) (pa_cons (pe_op opn_or (pe_op opn_one (pe_int) (pe_op op_mod (pv 3) (pe_ix ix_tup (pv 1) (pe_int) (fun _ _ => rfl)))) (pe_op opn_bshl (pe_op op_mod (pe_op op_fdiv (pv 3) (pe_int)) (pe_int)) (pe_op op_mod (pe_op op_fdiv (pv 3) (pe_int)) (pe_ix ix_tup (pv 1) (pe_int) (fun _ _ => rfl))))) (pa_nil)))) (pa_nil))))) (pss_nil)) (pss_cons (ps_if (pt_cmpR op_eq (pv 2) (pe_str) (nomark _)) (pss_one (ps_ret (pe_lst (pa_cons (pe_tup (pa_cons (pv 2) (pa_cons (pe_op op_mod (pv 3) (pe_int)) (pa_nil)))) (pa_nil))))) (pss_nil)) (pss_cons (ps_if (pt_cmpR op_eq (pe_op op_mod (pv 3) (pe_int)) (pe_int) (nomark _)) (pss_one (ps_ret (pe_lst (pa_cons (pe_tup (pa_cons (pv 2) (pa_cons (pe_op op_sub (pe_int) (pe_op op_mod (pe_op op_fdiv (pv 3) (pe_int)) (pe_op op_pow (pe_int) (pe_int)))) (pa_nil)))) (pa_nil))))) (pss_nil)) (pss_one (ps_ret (pe_lst (pa_cons (pe_tup (pa_cons (pv 2) (pa_cons (pe_op op_mod (pe_op op_fdiv (pv 3) (pe_int)) (pe_op op_add (pe_callB call_len_seq (by rfl) (c.free "len") PySem.boot_len (pa_cons (pe_ix ix_tup (pv 1) (pe_int) (fun _ _ => rfl)) pa_nil)) (pe_int))) (pa_nil)))) (pa_nil)))))))))), ?_⟩
    have z0 := Int.emod_nonneg z (show (8 : Int) ≠ 0 by decide)
    have z1 := Int.emod_lt_of_pos z (show (0 : Int) < 8 by decide)
    obtain ⟨x, j, e1, e2, hx⟩ : ∃ (x : Str) (j : Nat), z % 8 = (j : Int) ∧ ([.str "turn", .str "turn", .str "lock", .str "unlock", .str "back", .str "permit", .str "turn", .str "lock"] : List V)[j]? = some (.str x) ∧ (x = "turn" ∨ x = "lock" ∨ x = "unlock" ∨ x = "back" ∨ x = "permit") := by
      have : z % 8 = 0 ∨ z % 8 = 1 ∨ z % 8 = 2 ∨ z % 8 = 3 ∨ z % 8 = 4 ∨ z % 8 = 5 ∨ z % 8 = 6 ∨ z % 8 = 7 := by omega
      rcases this with e | e | e | e | e | e | e | e
      · exact ⟨_, 0, e, rfl, .inl rfl⟩
      · exact ⟨_, 1, e, rfl, .inl rfl⟩
      · exact ⟨_, 2, e, rfl, .inr (.inl rfl)⟩
      · exact ⟨_, 3, e, rfl, .inr (.inr (.inl rfl))⟩
      · exact ⟨_, 4, e, rfl, .inr (.inr (.inr (.inl rfl)))⟩
      · exact ⟨_, 5, e, rfl, .inr (.inr (.inr (.inr rfl)))⟩
      · exact ⟨_, 6, e, rfl, .inl rfl⟩
      · exact ⟨_, 7, e, rfl, .inr (.inl rfl)⟩
    refine ⟨(by show 8 ≤ sizeLine; decide), fun m nm => ⟨_, rfl, _, _, rfl, rfl, ipos, m, _, z % 8, .str x, rfl, rfl, SqL.of upd_same, (by rw [e1]; exact atI_nat e2), _, rfl, _, _, rfl, rfl, ⟨by decide, by decide⟩, ?_⟩⟩
    have sm : Same H (upd H m (.lst [.str "turn", .str "turn", .str "lock", .str "unlock", .str "back", .str "permit", .str "turn", .str "lock"])) := same_new nm
    generalize upd H m (.lst [.str "turn", .str "turn", .str "lock", .str "unlock", .str "back", .str "permit", .str "turn", .str "lock"]) = H1 at sm ⊢
    have hA1 := hA.mono sm
    have hlen := hA.sw.len
    have h12 := hok.len
    have e8 : (10 : Int) ^ (8 : Int).toNat = 100000000 := by decide
    have hp3 : (0 : Int) < (us.length : Int) + 3 := by omega
    have hm0 := Int.emod_nonneg (z / 8 / 2) (show (us.length : Int) + 3 ≠ 0 by omega)
    have hm1 := Int.emod_lt_of_pos (z / 8 / 2) hp3
    have hpos : (0 : Int) < (Y.1 : Int) := by omega
    rcases hx with rfl | rfl | rfl | rfl | rfl
    · refine ⟨_, rfl, rfl, _, rfl, ifd_f (kne "turn" "permit") ⟨_, rfl, rfl, _, rfl, ifd_f (kne "turn" "back") ⟨_, rfl, _, _, rfl, rfl, ipos, rfl, _, rfl, ifb (fun _ => ?_) (fun _ => ?_)⟩⟩⟩
      · refine ⟨_, rfl, _, rfl, _, _, rfl, rfl, ⟨by decide, by decide⟩, _, _, rfl, rfl, ⟨by decide, by decide, by decide⟩, _, _, rfl, rfl, (by rw [e8]; exact ipos), _, _, rfl, rfl, (by show 2 ≤ sizeLine; decide), fun t nt => ⟨(by show 1 ≤ sizeLine; decide), fun p np => ?_⟩⟩
        exact hq p _ (ds_one (q := .turn (999999999 - z / 8 / 32 % 10 ^ (8 : Int).toNat).toNat) sm rfl (vint (999999999 - z / 8 / 32 % 10 ^ (8 : Int).toNat) (by rw [e8]; omega)) nt np (by show _ < _; rw [e8]; omega)) ((same_mut' sm nt).free np)
      · refine ⟨_, rfl, _, rfl, _, _, rfl, rfl, ⟨by decide, by decide⟩, _, rfl, y, _, 1, _, rfl, rfl, SqT.of hA1.tp, rfl, l, us, rfl, .inl (SqL.of hA1.ls), _, _, rfl, rfl, _, _, rfl, rfl, hp3, (by show 2 ≤ sizeLine; decide), fun t nt => ⟨(by show 1 ≤ sizeLine; decide), fun p np => ?_⟩⟩
        exact hq p _ (ds_one (q := .turn (z / 8 / 2 % ((us.length : Int) + 3)).toNat) sm rfl (vint _ hm0) nt np (by show _ < 10 ^ 9; omega)) ((same_mut' sm nt).free np)
    · refine ⟨_, rfl, rfl, _, rfl, ifd_f (kne "lock" "permit") ⟨_, rfl, rfl, _, rfl, ifd_f (kne "lock" "back") ⟨_, rfl, _, _, rfl, rfl, ipos, rfl, _, rfl, ifb (fun _ => ?_) (fun _ => ?_)⟩⟩⟩
      · refine ⟨_, rfl, _, rfl, _, _, rfl, rfl, ⟨by decide, by decide⟩, _, _, rfl, rfl, ⟨by decide, by decide, by decide⟩, _, _, rfl, rfl, (by rw [e8]; exact ipos), _, _, rfl, rfl, (by show 2 ≤ sizeLine; decide), fun t nt => ⟨(by show 1 ≤ sizeLine; decide), fun p np => ?_⟩⟩
        exact hq p _ (ds_one (q := .lock (999999999 - z / 8 / 32 % 10 ^ (8 : Int).toNat).toNat) sm rfl (vint (999999999 - z / 8 / 32 % 10 ^ (8 : Int).toNat) (by rw [e8]; omega)) nt np (by show _ < _; rw [e8]; omega)) ((same_mut' sm nt).free np)
      · refine ⟨_, rfl, _, rfl, _, _, rfl, rfl, ⟨by decide, by decide⟩, _, rfl, y, _, 1, _, rfl, rfl, SqT.of hA1.tp, rfl, l, us, rfl, .inl (SqL.of hA1.ls), _, _, rfl, rfl, _, _, rfl, rfl, hp3, (by show 2 ≤ sizeLine; decide), fun t nt => ⟨(by show 1 ≤ sizeLine; decide), fun p np => ?_⟩⟩
        exact hq p _ (ds_one (q := .lock (z / 8 / 2 % ((us.length : Int) + 3)).toNat) sm rfl (vint _ hm0) nt np (by show _ < 10 ^ 9; omega)) ((same_mut' sm nt).free np)
    · refine ⟨_, rfl, rfl, _, rfl, ifd_f (kne "unlock" "permit") ⟨_, rfl, rfl, _, rfl, ifd_f (kne "unlock" "back") ⟨_, rfl, _, _, rfl, rfl, ipos, rfl, _, rfl, ifb (fun _ => ?_) (fun _ => ?_)⟩⟩⟩
      · refine ⟨_, rfl, _, rfl, _, _, rfl, rfl, ⟨by decide, by decide⟩, _, _, rfl, rfl, ⟨by decide, by decide, by decide⟩, _, _, rfl, rfl, (by rw [e8]; exact ipos), _, _, rfl, rfl, (by show 2 ≤ sizeLine; decide), fun t nt => ⟨(by show 1 ≤ sizeLine; decide), fun p np => ?_⟩⟩
        exact hq p _ (ds_one (q := .unlock (999999999 - z / 8 / 32 % 10 ^ (8 : Int).toNat).toNat) sm rfl (vint (999999999 - z / 8 / 32 % 10 ^ (8 : Int).toNat) (by rw [e8]; omega)) nt np (by show _ < _; rw [e8]; omega)) ((same_mut' sm nt).free np)
      · refine ⟨_, rfl, _, rfl, _, _, rfl, rfl, ⟨by decide, by decide⟩, _, rfl, y, _, 1, _, rfl, rfl, SqT.of hA1.tp, rfl, l, us, rfl, .inl (SqL.of hA1.ls), _, _, rfl, rfl, _, _, rfl, rfl, hp3, (by show 2 ≤ sizeLine; decide), fun t nt => ⟨(by show 1 ≤ sizeLine; decide), fun p np => ?_⟩⟩
        exact hq p _ (ds_one (q := .unlock (z / 8 / 2 % ((us.length : Int) + 3)).toNat) sm rfl (vint _ hm0) nt np (by show _ < 10 ^ 9; omega)) ((same_mut' sm nt).free np)
    · refine ⟨_, rfl, rfl, _, rfl, ifd_f (kne "back" "permit") ⟨_, rfl, rfl, _, rfl, ifd_t rfl ?_⟩⟩
      refine ⟨_, rfl, _, rfl, _, _, rfl, rfl, ipos, (by show 2 ≤ sizeLine; decide), fun t nt => ⟨(by show 1 ≤ sizeLine; decide), fun p np => ?_⟩⟩
      exact hq p _ (ds_one (q := .back (z / 8 % 4).toNat) sm rfl (vint (z / 8 % 4) (by omega)) nt np (by show _ < 10 ^ 9; omega)) ((same_mut' sm nt).free np)
    · refine ⟨_, rfl, rfl, _, rfl, ifd_t rfl ?_⟩
      have a0 := Int.emod_nonneg (z / 8) (show (Y.1 : Int) ≠ 0 by omega)
      have a1 := Int.emod_lt_of_pos (z / 8) hpos
      have b0 := Int.emod_nonneg (z / 8 / 20) (show (Y.1 : Int) ≠ 0 by omega)
      have b1 := Int.emod_lt_of_pos (z / 8 / 20) hpos
      have h10 := hok.n
      refine ⟨_, rfl, _, rfl, _, rfl, y, _, 0, _, rfl, rfl, SqT.of hA1.tp, rfl, _, _, rfl, rfl, hpos, (z / 8 % (Y.1 : Int)).toNat, rfl, vint _ a0, (by omega), ?_⟩
      refine ⟨_, rfl, _, _, rfl, rfl, ⟨by decide, by decide⟩, _, _, rfl, rfl, ipos, _, rfl, _, _, rfl, rfl, ⟨by decide, by decide⟩, _, rfl, y, _, 0, _, rfl, rfl, SqT.of hA1.tp, rfl, _, _, rfl, rfl, hpos, (z / 8 / 10 % 2).toNat, (z / 8 / 20 % (Y.1 : Int)).toNat, vint (z / 8 / 10 % 2) (by omega), vint _ b0, (by omega), (by omega), _, _, rfl, rfl, (by show 2 ≤ sizeLine; decide), fun t nt => ⟨(by show 1 ≤ sizeLine; decide), fun p np => ?_⟩⟩
      have p1 : 2 ^ (z / 8 % (Y.1 : Int)).toNat < 2 ^ Y.1 := pow_lt2 (by omega)
      have p2 : 2 ^ (z / 8 / 20 % (Y.1 : Int)).toNat < 2 ^ Y.1 := pow_lt2 (by omega)
      have p3 : (z / 8 / 10 % 2).toNat * 2 ^ (z / 8 / 20 % (Y.1 : Int)).toNat < 2 ^ Y.1 := Nat.lt_of_le_of_lt (Nat.le_trans (Nat.mul_le_mul_right _ (show (z / 8 / 10 % 2).toNat ≤ 1 by omega)) (Nat.le_of_eq (Nat.one_mul _))) p2
      exact hq p _ (ds_one (q := .permit (2 ^ (z / 8 % (Y.1 : Int)).toNat ||| (z / 8 / 10 % 2).toNat * 2 ^ (z / 8 / 20 % (Y.1 : Int)).toNat)) sm rfl rfl nt np ⟨Nat.le_trans Nat.one_le_two_pow Nat.left_le_or, Nat.or_lt_two_pow p1 p3⟩) ((same_mut' sm nt).free np)
end
end K38
namespace K38
open PySem PySem.Spec PyProof.Rows L2
def dV : V → PyData
  | .str x => .str x
  | .int i => .int i
  | _ => .none
theorem kinds_ok : PyData.strOk "feed" = true ∧ PyData.strOk "earth" = true ∧ PyData.strOk "breaker" = true ∧ PyData.strOk "splitter" = true := by decide +kernel
theorem fl_parts {K : PySem.W.Frag} {H : Hp} (sw : Sw) : ∀ v ∈ sw.parts, Fl K H v (dV v) := by
  intro v hv
  cases sw with
  | feed b =>
    rcases List.mem_cons.mp hv with rfl | hv
    · exact fl_str _ kinds_ok.1
    · rw [List.mem_singleton.mp hv]
      exact fl_int _
  | earth b =>
    rcases List.mem_cons.mp hv with rfl | hv
    · exact fl_str _ kinds_ok.2.1
    · rw [List.mem_singleton.mp hv]
      exact fl_int _
  | brk a b =>
    rcases List.mem_cons.mp hv with rfl | hv
    · exact fl_str _ kinds_ok.2.2.1
    · rcases List.mem_cons.mp hv with rfl | hv
      · exact fl_int _
      · rw [List.mem_singleton.mp hv]
        exact fl_int _
  | spl a b =>
    rcases List.mem_cons.mp hv with rfl | hv
    · exact fl_str _ kinds_ok.2.2.2
    · rcases List.mem_cons.mp hv with rfl | hv
      · exact fl_int _
      · rw [List.mem_singleton.mp hv]
        exact fl_int _
theorem dp_sw {K : PySem.W.Frag} {H : Hp} {t : Addr} {sw : Sw} (h : H t = some (.tup sw.parts)) : Dp K H (.ref t) (.tuple (sw.parts.map dV)) ∧ SeqAt.shaped (.tuple (sw.parts.map dV)) = true := fl_tup (f := id) (g := dV) (fl_parts sw) (by rw [List.map_id]; exact SqT.of h)
section
variable {X : Cx}
theorem op_in_seqK (K : PySem.W.Frag) (hK : X.K = K := by rfl) : OpR X (compareOp .In) (rIn K false) := by
  subst hK
  exact op_in_seq
end
theorem PrI.le {H H' : Hp} {Y : Yard} {l : Addr} {n k : Nat} (h : PrI H Y l n H') (hk : n ≤ k) : PrI H Y l k H' := by
  obtain ⟨s, qs, h1, h2, h3⟩ := h
  exact ⟨s, qs, h1, h2, Nat.le_trans h3 hk⟩
theorem PrI.get {H H' : Hp} {Y : Yard} {l : Addr} {n : Nat} (h : PrI H Y l n H') : ∃ xs, H' l = some (.lst xs) := by
  obtain ⟨s, qs, ⟨us, h1, _⟩, _⟩ := h
  exact ⟨us, h1⟩
theorem ds_one1 {H H' : Hp} {Y : Yard} {t p : Addr} {q : Dd} {x : Str} {v : V} (s : Same H H') (hx : x = q.word) (hv : v = vN q.num) (nt : H' t = none) (np : upd H' t (.tup [.str x, v]) p = none) (hf : q.fit Y) :
    PrI H Y p 1 (upd (upd H' t (.tup [.str x, v])) p (.lst [.ref t])) := by
  subst hx hv
  exact ⟨same_mut' (same_mut' s nt) np, [q], ⟨_, upd_same, ⟨t, rfl, by rw [upd_ne (ne_of_none upd_same np)]; exact upd_same⟩, trivial⟩, fun x hx => by rw [List.mem_singleton.mp hx]; exact hf, Nat.le_refl 1⟩
theorem ds_two {H H' : Hp} {Y : Yard} {t u p : Addr} {q r : Dd} {x x2 : Str} {v v2 : V} (s : Same H H') (hx : x = q.word) (hv : v = vN q.num) (hx2 : x2 = r.word) (hv2 : v2 = vN r.num) (nt : H' t = none) (nu : upd H' t (.tup [.str x, v]) u = none) (np : upd (upd H' t (.tup [.str x, v])) u (.tup [.str x2, v2]) p = none) (hf : q.fit Y) (hf2 : r.fit Y) :
    PrI H Y p 2 (upd (upd (upd H' t (.tup [.str x, v])) u (.tup [.str x2, v2])) p (.lst [.ref t, .ref u])) := by
  subst hx hv hx2 hv2
  have e1 : upd (upd H' t (.tup [.str q.word, vN q.num])) u (.tup [.str r.word, vN r.num]) t = some (.tup [.str q.word, vN q.num]) := by
    rw [upd_ne (ne_of_none upd_same nu)]
    exact upd_same
  refine ⟨same_mut' (same_mut' (same_mut' s nt) nu) np, [q, r], ⟨_, upd_same, ⟨t, rfl, ?_⟩, ⟨u, rfl, ?_⟩, trivial⟩, fun x hx => ?_, Nat.le_refl 2⟩
  · rw [upd_ne (ne_of_none e1 np)]
    exact e1
  · rw [upd_ne (ne_of_none upd_same np)]
    exact upd_same
  · rcases List.mem_cons.mp hx with rfl | hx
    · exact hf
    · rw [List.mem_singleton.mp hx]
      exact hf2
structure LcP (H H4 : Hp) (Y : Yard) (D : Addr) (i : Nat) (H' : Hp) : Prop where
  s : Same H4 H'
  p : PrI H Y D i H'
theorem LcP.start {H H4 : Hp} {Y : Yard} {D : Addr} (s : Same H H4) (hD : H4 D = none) : LcP H H4 Y D 0 (upd H4 D (.lst [])) := ⟨same_new hD, .nil s hD⟩
theorem LcP.skip {H H4 H' H2 : Hp} {Y : Yard} {D : Addr} {i : Nat} (h : LcP H H4 Y D i H') (s : Same H' H2) : LcP H H4 Y D (i + 1) H2 := ⟨h.s.trans s, (h.p.mono s).le (Nat.le_succ i)⟩
theorem LcP.app {H H4 H' H2 : Hp} {Y : Yard} {D t : Addr} {i : Nat} {q : Dd} (h : LcP H H4 Y D i H') (s0 : Same H H4) (hD : H4 D = none) (s : Same H' H2) (ht : H2 t = some (.tup [.str q.word, vN q.num])) (hf : q.fit Y) (hn : i ≤ 1000) :
    ∃ acc, H2 D = some (.lst acc) ∧ acc.length < sizeLine ∧ LcP H H4 Y D (i + 1) (upd H2 D (.lst (acc ++ [.ref t]))) := by
  obtain ⟨xs, h1, h2, h3⟩ := h.p.app s (s0.free hD) ht hf hn
  exact ⟨xs, h1, h2, same_mut (h.s.trans s) hD, h3⟩
theorem cut_one (ks : List Nat) : cutV (ks.map vN) none (some 1) = (ks.take 1).map vN := by
  unfold cutV
  rw [HT.sIx_none, show HT.sIx (ks.map vN).length (ks.map vN).length (some 1) = min 1 (ks.map vN).length from HT.sIx_nat _ _ 1]
  cases ks with
  | nil => rfl
  | cons k ks =>
    rw [List.map_cons, List.length_cons, Nat.min_eq_left (Nat.succ_le_succ (Nat.zero_le _))]
    rfl
theorem dp_pair {K : PySem.W.Frag} {H : Hp} {q : Addr} {b : Int} (h : H q = some (.tup [.str "earth", .int b])) : Dp K H (.ref q) (.tuple ([V.str "earth", V.int b].map dV)) ∧ SeqAt.shaped (.tuple ([V.str "earth", V.int b].map dV)) = true :=
  fl_tup (f := id) (g := dV) (fun v hv => by
    rcases List.mem_cons.mp hv with rfl | hv
    · exact fl_str _ kinds_ok.2.1
    · rw [List.mem_singleton.mp hv]
      exact fl_int _) (by rw [List.map_id]; exact SqT.of h)
def spPrepared : Sp := fun vs H Q _ => ∃ (i : Int) (y : Addr) (Y : Yard) (st : Nat), vs = [.int i, .ref y, vN st] ∧ YH H y Y ∧ 2 ≤ Y.1 ∧ YOk Y ∧ ∀ (p : Addr) (H' : Hp), PrI H Y p 100 H' → H p = none → Q (.ref p) H'
section
variable {P : Program} {w : World} {K : PySem.W.Frag} {mg : Str → Option Value} {base : Heap}

theorem go_prepared (c : Ct K mg) : Go P w K mg base 1 "_law_prepared" spPrepared := by
  have nd : (["cell", "yard", "standing", "bar", "some", "word", "k", "earths"] : List Str).Nodup := by decide +kernel
  refine go_of (d := d_law_prepared) (N := ["cell", "yard", "standing", "bar", "some", "word", "k", "earths"]) (ps := ["cell", "yard", "standing"]) (k := 0) c 32 rfl rfl rfl rfl ⟨rfl, rfl, rfl, nd, rfl, by decide +kernel, by decide +kernel⟩ (fun _ _ _ _ _ _ us hl => match us, hl with | [_, _, _], _ => rfl) (fun vs H Q E h => ?_) (fun cdv A outer s H vs Q E hr h => ?_)
  · obtain ⟨i, y, Y, st, rfl, _⟩ := h
    rfl
  · obtain ⟨z, y, Y, st, rfl, ⟨l, us, hA⟩, hY2, hok, hq⟩ := h
    refine ⟨_, PSs.nox (pss_cons (ps_set (i := 3) nd rfl (Or.inr rfl) (pe_op op_mod (pe_op op_fdiv (pv 0) (pe_int)) (pe_ix ix_tup (pv 1) (pe_int) (fun _ _ => rfl)))) (pss_cons (ps_set (i := 4) nd rfl (Or.inl rfl) (pe_lst (pa_nil))) (pss_cons (ps_for PassesOwn.never rfl (pi_list (pe_lst (pa_cons (pe_str) (pa_cons (pe_str) (pa_cons (pe_str) (pa_nil)))))) (pg_name (i := 5) nd rfl (Or.inl rfl)) (pss_one (ps_for PassesOwn.never rfl (pi_range1 rfl (c.free "range") (pa_cons (pe_callB call_len_seq (by rfl) (c.free "len") PySem.boot_len (pa_cons (pe_ix ix_tup (pv 1) (pe_int) (fun _ _ => rfl)) pa_nil)) (pa_nil))) (pg_name (i := 6) nd rfl (Or.inl rfl)) (pss_one (ps_if (PW.pt (pw_and (pt_cmpR op_eq (pe_ix ix_tup (pe_ix ix_list (pe_ix ix_tup (pv 1) (pe_int) (fun _ _ => rfl)) (pv 6) (fun _ _ => rfl)) (pe_int) (fun _ _ => rfl)) (pv 5) (nomark _)) (pw_and1 (pt_bit (pv 2) (pv 6))))) (pss_one (ps_expr (pe_bm PySem.F.plainAttrs_list PySem.F.slot_list_append PySem.F.type_list_append mt_append (pv 4) (pa_cons (pe_tup (pa_cons (pe_str) (pa_cons (pv 6) (pa_nil)))) (pa_nil))))) (pss_nil)))))) (pss_cons (ps_set (i := 4) nd rfl (Or.inl rfl) (pe_op op_cat (pv 4) (pe_lc (own := [("k", 6)]) (g := gName 6) rfl nd (pi_range1 rfl (c.free "range") (pa_cons (pe_callB call_len_seq (by rfl) (c.free "len") PySem.boot_len (pa_cons (pe_ix ix_tup (pv 1) (pe_int) (fun _ _ => rfl)) pa_nil)) (pa_nil))) (blkOk_by (own := [("k", 6)]) (N := ["cell", "yard", "standing", "bar", "some", "word", "k", "earths"]) (sc := defScope s_law_prepared) (by decide +kernel)) (fun _ _ _ _ _ => pg_name (i := 6) nd rfl (Or.inl rfl)) (fun _ _ _ _ _ => by exact pts_one (pt_cmpR (op_in_seqK K) (pe_ix (ix_tupK K) (pe_ix (ix_listK K) (pe_ix (ix_tupK K) (pv 1) (pe_int) (fun _ _ => rfl)) (pv 6) (fun _ _ => rfl)) (pe_int) (fun _ _ => rfl)) (pe_tup (pa_cons (pe_str) (pa_cons (pe_str) (pa_nil)))) (by rfl))) (fun _ _ _ _ _ => by exact pe_tup (pa_cons (pe_str) (pa_cons (pv 6) (pa_nil))))))) (pss_cons (ps_setLc (i := 7) (own := [("k", 6)]) (g := gName 6) rfl nd rfl rfl (sw_true rfl rfl rfl rfl) (pi_range1 rfl (c.free "range") (pa_cons (pe_callB call_len_seq (by rfl) (c.free "len") PySem.boot_len (pa_cons (pe_ix ix_tup (pv 1) (pe_int) (fun _ _ => rfl)) pa_nil)) (pa_nil))) (blkOk_by (own := [("k", 6)]) (N := ["cell", "yard", "standing", "bar", "some", "word", "k", "earths"]) (sc := defScope s_law_prepared) (by decide +kernel)) (fun _ _ _ _ _ => pg_name (i := 6) nd rfl (Or.inl rfl)) (fun _ _ _ _ _ => by exact pts_one (pt_cmpR (op_eqDK K hr.units) (pe_ix (ix_listK K) (pe_ix (ix_tupK K) (pv 1) (pe_int) (fun _ _ => rfl)) (pv 6) (fun _ _ => rfl)) (pe_tup (pa_cons (pe_str) (pa_cons (pv 3) (pa_nil)))) (nomark _))) (fun _ _ _ _ _ => by exact pv 6)) (pss_cons (ps_set (i := 4) nd rfl (Or.inl rfl) (pe_op op_cat (pv 4) (pe_lc (own := [("k", 6)]) (g := gName 6) rfl nd (pi_list (pe_slice sl_list (pv 7) (po_none) (po_some (pe_int)))) (blkOk_by (own := [("k", 6)]) (N := ["cell", "yard", "standing", "bar", "some", "word", "k", "earths"]) (sc := defScope s_law_prepared) (by decide +kernel)) (fun _ _ _ _ _ => pg_name (i := 6) nd rfl (Or.inl rfl)) (fun _ _ _ _ _ => by exact pts_one (pt_bit0 (pv 2) (pv 6))) (fun _ _ _ _ _ => by exact pe_tup (pa_cons (pe_str) (pa_cons (pv 6) (pa_nil))))))) (pss_cons (ps_set (i := 4) nd rfl (Or.inl rfl) (pe_op op_cat (pe_op op_cat (pv 4) (pe_lst (pa_cons (pe_tup (pa_cons (pe_str) (pa_cons (pe_op opn_one (pe_int) (pv 3)) (pa_nil)))) (pa_nil)))) (pe_lc (own := [("k", 6)]) (g := gName 6) (tt := tYes) rfl nd (pi_list (pe_slice sl_list (pv 7) (po_none) (po_some (pe_int)))) (blkOk_by (own := [("k", 6)]) (N := ["cell", "yard", "standing", "bar", "some", "word", "k", "earths"]) (sc := defScope s_law_prepared) (by decide +kernel)) (fun _ _ _ _ _ => pg_name (i := 6) nd rfl (Or.inl rfl)) (fun _ _ _ _ _ => pts_nil) (fun _ _ _ _ _ => by exact pe_tup (pa_cons (pe_str) (pa_cons (pv 6) (pa_nil))))))) (pss_one (ps_ret (pe_op op_cat (pv 4) (pe_lst (pa_cons (pe_tup (pa_cons (pe_str) (pa_cons (pe_op op_mod (pe_op op_fdiv (pv 0) (pe_int)) (pe_int)) (pa_nil)))) (pa_cons (pe_tup (pa_cons (pe_str) (pa_cons (pe_op op_mod (pe_op op_fdiv (pv 0) (pe_int)) (pe_int)) (pa_nil)))) (pa_nil)))))))))))))), ?_⟩
    have hlen := hA.sw.len
    have h12 := hok.len
    have hpos : (0 : Int) < (Y.1 : Int) := by omega
    have a0 := Int.emod_nonneg (z / 8) (show (Y.1 : Int) ≠ 0 by omega)
    have a1 := Int.emod_lt_of_pos (z / 8) hpos
    have hlo : -(2 ^ 62) ≤ ((us.length : Nat) : Int) := by omega
    have hhi : ((us.length : Nat) : Int) < 2 ^ 62 := by omega
    have swAt : ∀ {i : Nat}, i < us.length → ∃ (t : Addr) (sw : Sw), us[i]? = some (.ref t) ∧ H t = some (.tup sw.parts) := fun {i} hi => by
      obtain ⟨sw, _, t, e, ht⟩ := hA.sw.get (List.getElem?_eq_getElem hi)
      exact ⟨t, sw, by rw [List.getElem?_eq_getElem hi, e], ht⟩
    refine ⟨_, rfl, _, _, rfl, rfl, ⟨by decide, by decide⟩, _, rfl, y, _, 0, _, rfl, rfl, SqT.of hA.tp, rfl, _, _, rfl, rfl, hpos, ?_⟩
    refine ⟨Nat.zero_le _, fun m nm => ?_⟩
    refine ⟨(by show 3 ≤ sizeLine; decide), fun w nw => ⟨w, rfl, ⟨_, SqL.of upd_same⟩, ?_⟩⟩
    have sm := same_new (o := .lst []) nm
    have p0 : PrI H Y m 0 (upd (upd H m (.lst [])) w (.lst [.str "feed", .str "breaker", .str "splitter"])) := (PrI.nil (Same.refl H) nm).mono (same_new nw)
    have mw : w ≠ m := (ne_of_none upd_same nw).symm
    have nwH : H w = none := sm.free nw
    refine for_list (a := w) (xs := [.str "feed", .str "breaker", .str "splitter"]) (fun i σ H3 => ∃ v5 v6 : Option V, σ = [some (.int z), some (.ref y), some (vN st), some (.int (z / 8 % (Y.1 : Int))), some (.ref m), v5, v6, none] ∧ PrI H Y m (12 * i) H3 ∧ H3 w = some (.lst [.str "feed", .str "breaker", .str "splitter"]))
      ⟨none, none, rfl, p0, upd_same⟩ (fun i σ H3 _ h => by obtain ⟨_, _, _, _, h⟩ := h; exact SqL.of h) ?_ ?_
    · rintro i x σ H3 hx ⟨v5, v6, rfl, pr, hw⟩
      obtain ⟨wd, rfl⟩ : ∃ wd, x = .str wd := by
        have hx2 := List.mem_of_getElem? hx
        simp only [List.mem_cons, List.not_mem_nil, or_false] at hx2
        rcases hx2 with rfl | rfl | rfl <;> exact ⟨_, rfl⟩
      have hi3 : i < 3 := (List.getElem?_eq_some_iff.mp hx).1
      have hA3 := hA.mono pr.s
      refine ⟨_, rfl, y, _, 1, _, rfl, rfl, SqT.of hA3.tp, rfl, l, us, rfl, .inl (SqL.of hA3.ls), _, rfl, hlo, hhi, ?_⟩
      refine for_range (n := us.length) (fun j σ H4 => ∃ v6 : Option V, σ = [some (.int z), some (.ref y), some (vN st), some (.int (z / 8 % (Y.1 : Int))), some (.ref m), some (.str wd), v6, none] ∧ PrI H Y m (12 * i + j) H4 ∧ H4 w = some (.lst [.str "feed", .str "breaker", .str "splitter"])) ⟨v6, rfl, pr, hw⟩ ?_ ?_
      · rintro j σ H4 hj ⟨v6, rfl, pr4, hw4⟩
        rw [Int.zero_add]
        obtain ⟨t, sw, hu, ht⟩ := swAt hj
        have hA4 := hA.mono pr4.s
        refine ⟨_, rfl, y, _, 1, _, rfl, rfl, SqT.of hA4.tp, rfl, _, rfl, l, _, (j : Int), _, rfl, rfl, SqL.of hA4.ls, atI_nat hu, t, _, 0, .str sw.kind, rfl, rfl, SqT.of (pr4.s t _ ht), (by rw [Sw.parts_eq]; exact atI_nat (j := 0) rfl), _, rfl, rfl, _, rfl, ifb (fun _ => ?_) (fun _ => ?_)⟩
        · refine ⟨_, rfl, _, rfl, st, j, rfl, rfl, _, rfl, ifb (fun _ => ?_) (fun _ => ?_)⟩
          · obtain ⟨xs0, hm0⟩ := pr4.get
            refine ⟨_, rfl, .inl ⟨rfl, _, SqL.of hm0⟩, _, rfl, (by show 2 ≤ sizeLine; decide), fun t2 nt2 => ?_⟩
            obtain ⟨xs, e1, e2, e3⟩ := pr4.app (q := .turn j) (same_new (o := .tup [.str "turn", vN j]) nt2) nm upd_same (by show j < 10 ^ 9; omega) (by omega)
            refine ⟨m, _, _, rfl, rfl, e1, e2, ?_⟩
            refine ⟨_, rfl, e3, ?_⟩
            rw [upd_ne mw, upd_ne (ne_of_none hw4 nt2)]
            exact hw4
          · exact ⟨_, rfl, pr4.le (Nat.le_succ _), hw4⟩
        · exact iteF ⟨_, rfl, pr4.le (Nat.le_succ _), hw4⟩
      · rintro σ H4 ⟨v6, rfl, pr4, hw4⟩
        exact ⟨_, _, rfl, pr4.le (by omega), hw4⟩
    · rintro σ H3 ⟨v5, v6, rfl, pr30, _⟩
      have pr3 : PrI H Y m 36 H3 := pr30.le (by show 12 * 3 ≤ 36; decide)
      clear pr30
      have hA3 := hA.mono pr3.s
      refine ⟨_, rfl, _, rfl, y, _, 1, _, rfl, rfl, SqT.of hA3.tp, rfl, l, us, rfl, .inl (SqL.of hA3.ls), _, rfl, hlo, hhi, fun D hD => ?_⟩
      refine lc_range (n := us.length) (LcP H H3 Y D) (LcP.start pr3.s hD) ?_ ?_
      · intro i H4 hi h4
        rw [Int.zero_add]
        obtain ⟨t, sw, hu, ht⟩ := swAt hi
        have s4 := h4.p.s
        have hA4 := hA.mono s4
        refine ⟨rfl, _, rfl, y, _, 1, _, rfl, rfl, SqT.of hA4.tp, rfl, _, rfl, l, _, (i : Int), _, rfl, rfl, SqL.of hA4.ls, atI_nat hu, t, _, 0, .str sw.kind, rfl, rfl, SqT.of (s4 t _ ht), (by rw [Sw.parts_eq]; exact atI_nat (j := 0) rfl), (by show 2 ≤ sizeLine; decide), fun q nq => ?_⟩
        refine ⟨q, _, rfl, .inr (SqT.of upd_same), rfl, rfl, _, rfl, ifb (fun _ => ?_) (fun _ => h4.skip (same_new nq))⟩
        refine ⟨_, rfl, (by show 2 ≤ sizeLine; decide), fun t2 nt2 => ?_⟩
        exact h4.app (q := .lock i) pr3.s hD ((same_new nq).trans (same_new nt2)) upd_same (by show i < 10 ^ 9; omega) (by omega)
      · intro H4 h4
        obtain ⟨xs, zs, e1, e2, e3, e4⟩ := (pr3.mono h4.s).cat h4.p (by omega)
        refine ⟨m, D, xs, zs, rfl, rfl, e1, e2, e3, fun r nr => ?_⟩
        have prr := e4 r nr
        generalize upd H4 r (.lst (xs ++ zs)) = H5 at prr
        have hA5 := hA.mono prr.s
        clear e1 e2 e3 e4 nr
        refine ⟨_, rfl, y, _, 1, _, rfl, rfl, SqT.of hA5.tp, rfl, l, us, rfl, .inl (SqL.of hA5.ls), _, rfl, hlo, hhi, fun F hF => ?_⟩
        refine lc_range (n := us.length) (fun i H' => Same H5 H' ∧ ∃ ks : List Nat, H' F = some (.lst (ks.map vN)) ∧ (∀ k ∈ ks, k < 12) ∧ ks.length ≤ i) ⟨same_new hF, [], upd_same, fun _ h => absurd h List.not_mem_nil, Nat.le_refl 0⟩ ?_ ?_
        · rintro i H6 hi ⟨s6, ks, hF6, hk, hkl⟩
          rw [Int.zero_add]
          obtain ⟨t, sw, hu, ht⟩ := swAt hi
          have s06 := prr.s.trans s6
          have hA6 := hA.mono s06
          refine ⟨rfl, _, rfl, y, _, 1, _, rfl, rfl, SqT.of hA6.tp, rfl, _, rfl, l, _, (i : Int), _, rfl, rfl, SqL.of hA6.ls, atI_nat hu, _, rfl, (by show 2 ≤ sizeLine; decide), fun q nq => ?_⟩
          have sq := same_new (o := .tup [.str "earth", .int (z / 8 % (Y.1 : Int))]) nq
          obtain ⟨d1, d2⟩ := dp_sw (K := K) (sq t _ (s06 t _ ht))
          obtain ⟨d3, d4⟩ := dp_pair (K := K) (H := upd H6 q (.tup [.str "earth", .int (z / 8 % (Y.1 : Int))])) (q := q) upd_same
          refine ⟨_, _, d1, d3, d2, d4, _, rfl, ifb (fun _ => ?_) (fun _ => ⟨s6.trans sq, ks, sq F _ hF6, hk, Nat.le_succ_of_le hkl⟩)⟩
          refine ⟨_, rfl, ks.map vN, sq F _ hF6, by rw [List.length_map]; exact small1000 (by omega), same_mut (s6.trans sq) hF, ks ++ [i], ?_, ?_, ?_⟩
          · rw [List.map_append]
            exact upd_same
          · intro k hk2
            rcases List.mem_append.mp hk2 with hk2 | hk2
            · exact hk k hk2
            · rw [List.mem_singleton.mp hk2]
              omega
          · rw [List.length_append, List.length_singleton]
            omega
        · rintro H6 ⟨s6, ks, hF6, hk, hkl⟩
          have pr6 := prr.mono s6
          clear h4 hA3 hA5 prr
          have hk1 : ∀ {i k : Nat}, (ks.take 1)[i]? = some k → k < 12 := fun h => hk _ (List.mem_of_mem_take (List.mem_of_getElem? h))
          have hkl1 : (ks.take 1).length ≤ 1 := by
            rw [List.length_take]
            exact Nat.min_le_left _ _
          refine ⟨_, rfl, _, rfl, _, rfl, F, _, rfl, SqL.of hF6, fun q nq => ?_⟩
          rw [cut_one]
          have sq := same_new (o := .lst ((ks.take 1).map vN)) nq
          refine ⟨q, rfl, ⟨_, SqL.of upd_same⟩, fun G hG => ?_⟩
          refine lc_list (a := q) (xs := (ks.take 1).map vN) (LcP H (upd H6 q (.lst ((ks.take 1).map vN))) Y G) (LcP.start (pr6.s.trans sq) hG) (fun i H7 _ h => SqL.of (h.s q _ upd_same)) ?_ ?_
          · intro i x H7 hx h7
            rw [List.getElem?_map] at hx
            obtain ⟨k, hk2, rfl⟩ := Option.map_eq_some_iff.mp hx
            have hil := (List.getElem?_eq_some_iff.mp hk2).1
            refine ⟨rfl, _, rfl, _, rfl, st, k, rfl, rfl, _, rfl, ifb (fun _ => ?_) (fun _ => h7.skip (Same.refl _))⟩
            refine ⟨_, rfl, (by show 2 ≤ sizeLine; decide), fun t2 nt2 => ?_⟩
            exact h7.app (q := .turn k) (pr6.s.trans sq) hG (same_new nt2) upd_same (by have := hk1 hk2; show k < 10 ^ 9; omega) (by omega)
          · intro H7 h7
            rw [List.length_map] at h7
            have s67 := sq.trans h7.s
            obtain ⟨xs, zs, e1, e2, e3, e4⟩ := (pr6.mono s67).cat h7.p (by omega)
            refine ⟨r, G, xs, zs, rfl, rfl, e1, e2, e3, fun r2 nr2 => ?_⟩
            have p8 := e4 r2 nr2
            have s68 := same_mut' (o := .lst (xs ++ zs)) s67 nr2
            generalize upd H7 r2 (.lst (xs ++ zs)) = H8 at p8 s68
            have hF8 := s68 F _ hF6
            clear e1 e2 e3 e4 nr2
            refine ⟨_, rfl, _, rfl, (z / 8 % (Y.1 : Int)).toNat, rfl, vint _ a0, (by have := hok.n; omega), (by show 2 ≤ sizeLine; decide), fun t nt => ⟨(by show 1 ≤ sizeLine; decide), fun u nu => ?_⟩⟩
            have pp : 2 ^ (z / 8 % (Y.1 : Int)).toNat < 2 ^ Y.1 := pow_lt2 (by omega)
            have p9 := ds_one1 (Y := Y) (x := "permit") (q := .permit (2 ^ (z / 8 % (Y.1 : Int)).toNat)) p8.s rfl rfl nt nu ⟨Nat.one_le_two_pow, pp⟩
            have s9 := same_mut' (o := .lst [.ref t]) (same_new nt) nu
            obtain ⟨xs, zs, e1, e2, e3, e4⟩ := (p8.mono s9).cat p9 (by omega)
            refine ⟨r2, u, xs, zs, rfl, rfl, e1, e2, e3, fun r3 nr3 => ?_⟩
            have p10 := e4 r3 nr3
            have s10 := same_mut' (o := .lst (xs ++ zs)) s9 nr3
            generalize upd (upd (upd H8 t _) u _) r3 _ = H10 at p10 s10
            have hF10 := s10 F _ hF8
            clear e1 e2 e3 e4
            refine ⟨_, rfl, _, rfl, F, _, rfl, SqL.of hF10, fun q2 nq2 => ?_⟩
            rw [cut_one]
            have sq2 := same_new (o := .lst ((ks.take 1).map vN)) nq2
            refine ⟨q2, rfl, ⟨_, SqL.of upd_same⟩, fun J hJ => ?_⟩
            refine lc_list (a := q2) (xs := (ks.take 1).map vN) (LcP H (upd H10 q2 (.lst ((ks.take 1).map vN))) Y J) (LcP.start (p10.s.trans sq2) hJ) (fun i H7 _ h => SqL.of (h.s q2 _ upd_same)) ?_ ?_
            · intro i x H11 hx h11
              rw [List.getElem?_map] at hx
              obtain ⟨k, hk2, rfl⟩ := Option.map_eq_some_iff.mp hx
              have hil := (List.getElem?_eq_some_iff.mp hk2).1
              refine ⟨rfl, _, rfl, (by show 2 ≤ sizeLine; decide), fun t2 nt2 => ?_⟩
              exact h11.app (q := .turn k) (p10.s.trans sq2) hJ (same_new nt2) upd_same (by have := hk1 hk2; show k < 10 ^ 9; omega) (by omega)
            · intro H11 h11
              rw [List.length_map] at h11
              obtain ⟨xs, zs, e1, e2, e3, e4⟩ := ((p10.mono sq2).mono h11.s).cat h11.p (by omega)
              refine ⟨r3, J, xs, zs, rfl, rfl, e1, e2, e3, fun r4 nr4 => ?_⟩
              have p12 := e4 r4 nr4
              generalize upd H11 r4 (.lst (xs ++ zs)) = H12 at p12
              clear e1 e2 e3 e4
              have u0 : 0 ≤ z / 64 % 12 := by omega
              refine ⟨_, rfl, _, rfl, _, _, rfl, rfl, ⟨by decide, by decide⟩, _, _, rfl, rfl, ipos, (by show 2 ≤ sizeLine; decide), fun t1 n1 => ?_⟩
              refine ⟨_, rfl, _, _, rfl, rfl, ⟨by decide, by decide⟩, _, _, rfl, rfl, ipos, (by show 2 ≤ sizeLine; decide), fun t2 n2 => ⟨(by show 2 ≤ sizeLine; decide), fun u2 nu2 => ?_⟩⟩
              have p13 := ds_two (Y := Y) (x := "unlock") (x2 := "turn") (q := .unlock (z / 64 % 12).toNat) (r := .turn (z / 64 % 12).toNat) p12.s rfl (vint _ u0) rfl (vint _ u0) n1 n2 nu2 (by show _ < 10 ^ 9; omega) (by show _ < 10 ^ 9; omega)
              have s13 := same_mut' (o := .lst [.ref t1, .ref t2]) (same_mut' (same_new n1) n2) nu2
              obtain ⟨xs, zs, e1, e2, e3, e4⟩ := (p12.mono s13).cat p13 (by omega)
              refine ⟨r4, u2, xs, zs, rfl, rfl, e1, e2, e3, fun r5 nr5 => ?_⟩
              exact hq r5 _ ((e4 r5 nr5).le (by omega)) (p13.s.free nr5)
end
end K38
namespace K38
open PySem PySem.Spec PyProof.Rows L2
section
variable {X : Cx} {k j : Nat} {C m : Str} {sp : Sp} {E : XK} {e o : Expr} {es : List Expr} {ta to te : TE} {t : TA} {tg : Expr} {pos apos : Pos}
theorem pe_gmK (K : PySem.W.Frag) {pl : Sem Bool} (g : Gm X.prog X.w K X.mg X.base k C m sp) (hr : Room j X.A) (hx : Passes (L2.CX X.prog X.w) X E) (ho : PE X o ta) (ha : PA X (e :: es) t) (hK : X.K = K := by rfl) (hk : k ≤ j := by decide)
    (hst : starEach (e :: es) X.env = (false, eval e X.env) :: starEach es X.env := by rfl) (hpl : (backTo pos (starEach es X.env)).any (·.1) = false := by rfl)
    (ht : eval (.Call (.Attribute o m apos) (e :: es) [] pos) X.env = (do
      let ov ← eval o X.env
      standAt apos.atName
      let (f, first) ← holding [ov] (getMethod ov m pl)
      callWith pos f first (backTo pos (starEach (e :: es) X.env)) (backToKw pos (keywordEach [] X.env))) := by rfl) : PE X (.Call (.Attribute o m apos) (e :: es) [] pos) (tMeth (He.ga K C) m sp [] E ta t) := by
  subst hK
  exact pe_gm (pl := pl) g hr hx ho ha hk hst hpl ht
theorem pi_tupK (K : PySem.W.Frag) {l : Expr} {tl : TE} (hl : PE X l tl) (hK : X.K = K := by rfl) : PI X tg l (iTup K tl) := by
  subst hK
  exact pi_tup hl
theorem pe_joinK (K : PySem.W.Frag) (ho : PE X o to) (he : PE X e te) (hK : X.K = K := by rfl) (hs : starEach [e] X.env = [(false, eval e X.env)] := by rfl) (hbase : attributeBase o "join" X.env (eval o X.env) = eval o X.env := by rfl) (hline : (apos.endLine == pos.line) = true := by rfl) :
    PE X (.Call (.Attribute o "join" apos) [e] [] pos) (tM1 (fun x xs H Q => ∃ a p, ∃ ys : List Str, x = .str a ∧ xs = [.ref p] ∧ (SqL K H p (ys.map V.str) ∨ SqT K H p (ys.map V.str)) ∧
      (ys.map (·.length)).sum + ys.length * a.length ≤ 16777216 ∧ Q (.str (Txt.join a ys)) H) to te) := by
  subst hK
  exact pe_join ho he hs hbase hline
theorem call_str_any : CallR X (.type "str") (fun xs H Q => (∃ i : Int, xs = [.int i] ∧ i.natAbs.log2 < 1920 ∧ Q (.str (toString i)) H) ∨ ∃ a : Str, xs = [.str a] ∧ Q (.str a) H) := fun pins s σ H xs us Q I r h => by
  rcases h with h | h
  · exact call_str_int pins s σ H xs us Q I r h
  · exact SkE.call_str_str pins s σ H xs us Q I r h
end
theorem Sw.part_at {sw : Sw} {n i : Nat} {x : V} (hok : sw.ok n) (h10 : n ≤ 10) (h : sw.parts[i]? = some x) : ∃ w, sw.words[i]? = some w ∧ (x = .str w ∨ ∃ b : Nat, x = vN b ∧ w = tN b ∧ b < 10) := by
  rw [Sw.parts_eq] at h
  cases i with
  | zero =>
    have e : V.str sw.kind = x := Option.some.inj h
    exact ⟨sw.kind, rfl, .inl e.symm⟩
  | succ i =>
    have h : (sw.ends.map vN)[i]? = some x := h
    rw [List.getElem?_map] at h
    obtain ⟨b, hb, rfl⟩ := Option.map_eq_some_iff.mp h
    refine ⟨tN b, ?_, .inr ⟨b, rfl, rfl, Nat.lt_of_lt_of_le (Sw.ends_lt hok b (List.mem_of_getElem? hb)) h10⟩⟩
    show (sw.ends.map tN)[i]? = some (tN b)
    rw [List.getElem?_map, hb]
    rfl
theorem bars_eq (n : Nat) : ("bars " : Str) ++ tN n = rowOf ["bars", tN n] := by
  rw [← row_two]
  exact congrArg (· ++ tN n) (show ("bars " : Str) = ("bars" : Str) ++ (" " : Str) by decide +kernel)
def spLaw (K : PySem.W.Frag) : Sp := fun vs H Q _ => ∃ (a : Addr) (ns : List Int), vs = [.ref a] ∧ SqL K H a (ns.map V.int) ∧ ns.length ≤ 63 ∧ ∀ H', Q (.bl true) H'
def Stg (K : PySem.W.Frag) (a dx : Addr) (Y : Yard) : Nat → Hp → Prop
  | 0, H => H a = some (.ins (He.ga K "Desk") dx (dkf .non .non))
  | i + 1, H => ∃ y b yb db, DkAt K H a y b yb db ⟨(Y.1, Y.2.take i), 0, 0, [], 0⟩
theorem KeptA.trans {a : Addr} {H H1 H2 : Hp} (s : KeptA a H H1) (t : KeptA a H1 H2) : KeptA a H H2 := fun x o e h => t x o (s x o e h) h
theorem take_ok {Y : Yard} (h : YOk Y) (i : Nat) : YOk (Y.1, Y.2.take i) := ⟨h.n, by show (Y.2.take i).length ≤ 12; rw [List.length_take]; exact Nat.le_trans (Nat.min_le_right _ _) h.len, fun s hs => h.sw s (List.mem_of_mem_take hs)⟩
theorem YH.kt {H H' : Hp} {y : Addr} {Y : Yard} (h : YH H y Y) (k : KT H H') : YH H' y Y := h.keep k.1 k.2
section
variable {P : Program} {w : World} {K : PySem.W.Frag} {mg : Str → Option Value} {base : Heap}


theorem ok_law (c : Ct K mg) {fd : FuncData} (F : FunD K d_law.name d_law.qual d_law.params d_law.body d_law.scope (d_law.dvs K) (d_law.kws K) (He.fAd K d_law.at_) fd) : FnOk P w K mg base CX0 16 (He.ga K "law") fd ["script"] (spLaw K) := by
  have nd : (["script", "yard", "desk", "rows", "board", "left", "cell", "some", "word", "number", "switch", "part", "row", "kind"] : List Str).Nodup := by decide +kernel
  have S : FnScope ["script", "yard", "desk", "rows", "board", "left", "cell", "some", "word", "number", "switch", "part", "row", "kind"] ["script"] (defScope s_law) := ⟨rfl, rfl, rfl, nd, rfl, by decide +kernel, by decide +kernel⟩
  refine F.ok (k := 15) (sp := spLaw K) S (fun vs H Q E h => ?_) (fun cdv A outer s H vs Q E hr h => ?_)
  · obtain ⟨a, ns, rfl, _⟩ := h
    rfl
  · obtain ⟨sc, ns, rfl, hs, h63, hq⟩ := h
    refine ⟨_, PSs.nox (pss_cons (ps_set (i := 1) nd rfl (Or.inr rfl) (pe_g (go_yard c) hr passL (pa_cons (pv 0) (pa_nil)))) (pss_cons (ps_set (i := 2) nd rfl (Or.inr rfl) (pe_gk0 (gk_desk c) hr passL)) (pss_cons (ps_set (i := 3) nd rfl (Or.inl rfl) (pe_op op_cat (pe_lst (pa_cons (pe_op op_add_str (pe_str) (pe_callTy call_str_int (by rfl) (c.free "str") (by decide +kernel) (pa_cons (pe_ix ix_tup (pv 1) (pe_int) (fun _ _ => rfl)) (pa_nil)))) (pa_nil))) (pe_lc (own := [("switch", 10)]) (g := gName 10) (tt := tYes) rfl nd (pi_list (pe_ix ix_tup (pv 1) (pe_int) (fun _ _ => rfl))) (blkOk_by (own := [("switch", 10)]) (N := ["script", "yard", "desk", "rows", "board", "left", "cell", "some", "word", "number", "switch", "part", "row", "kind"]) (sc := defScope s_law) (by decide +kernel)) (fun _ _ _ _ _ => pg_name (i := 10) nd rfl (Or.inl rfl)) (fun _ _ _ _ _ => pts_nil) (fun _ _ _ _ _ => by exact pe_joinK K pe_str (pe_lc (own := [("part", 11)]) (g := gName 11) (tt := tYes) rfl nd (pi_tupK K (pv 10)) (blkOk_by (own := [("part", 11)]) (N := ["script", "yard", "desk", "rows", "board", "left", "cell", "some", "word", "number", "switch", "part", "row", "kind"]) (sc := { kind := .function, names := [(".0", .local), ("switch", .local)], isGenerator := false, isCoroutine := false }) (by decide +kernel)) (fun _ _ _ _ _ => pg_name (i := 11) nd rfl (Or.inl rfl)) (fun _ _ _ _ _ => pts_nil) (fun _ _ _ _ _ => by exact pe_callTy call_str_any (by rfl) (c.free "str") (by decide +kernel) (pa_cons (pv 11) (pa_nil)))))))) (pss_cons (ps_if (pt_cmpR (op_neD hr.units) (pe_lc (own := [("row", 12)]) (g := gName 12) rfl nd (pi_list (pv 3)) (blkOk_by (own := [("row", 12)]) (N := ["script", "yard", "desk", "rows", "board", "left", "cell", "some", "word", "number", "switch", "part", "row", "kind"]) (sc := defScope s_law) (by decide +kernel)) (fun _ _ _ _ _ => pg_name (i := 12) nd rfl (Or.inl rfl)) (fun _ _ _ _ _ => by exact pts_one (pt_cmpR op_ne (pe_gmK K (gm_say c) hr passL (pv 2) (pa_cons (pv 12) pa_nil)) (pe_str) (nomark _))) (fun _ _ _ _ _ => by exact pv 12)) (pe_lst (pa_nil)) (nomark _)) (pss_one (ps_ret (pe_bl))) (pss_nil)) (pss_cons (ps_set (i := 4) nd rfl (Or.inr rfl) (pe_gk (gk_board c) hr passL (pa_cons (pe_tup (pa_cons (pe_ix ix_tup (pv 1) (pe_int) (fun _ _ => rfl)) (pa_cons (pe_callTy call_list_of (by rfl) (c.free "list") (by decide +kernel) (pa_cons (pe_ix ix_tup (pv 1) (pe_int) (fun _ _ => rfl)) (pa_nil))) (pa_nil)))) (pa_nil)))) (pss_cons (ps_set (i := 5) nd rfl (Or.inl rfl) (pe_int)) (pss_cons (ps_for PassesOwn.never rfl (pi_list (pe_slice sl_list (pv 0) (po_none) (po_some (pe_int)))) (pg_name (i := 6) nd rfl (Or.inl rfl)) (pss_cons (ps_set (i := 7) nd rfl (Or.inl rfl) (pe_g (go_numbered c) hr passL (pa_cons (pe_op op_fdiv (pv 6) (pe_int)) (pa_cons (pv 1) (pa_nil))))) (pss_cons (ps_if (PW.pt (pw_and (pt_cmpR op_gt (pv 5) (pe_int) (nomark _)) (pw_and1 (pt_cmpR op_eq (pe_op op_mod (pv 6) (pe_int)) (pe_int) (nomark _))))) (pss_cons (ps_set (i := 5) nd rfl (Or.inl rfl) (pe_op op_sub (pv 5) (pe_int))) (pss_one (ps_set (i := 7) nd rfl (Or.inl rfl) (pe_g (go_prepared c) hr passL (pa_cons (pe_op op_fdiv (pv 6) (pe_int)) (pa_cons (pv 1) (pa_cons (pe_gm0 (gm_standing c) hr passL (pv 4)) (pa_nil)))))))) (pss_nil)) (pss_cons (ps_for PassesOwn.never rfl (pi_list (pv 7)) (pg_tup rfl (pgs_cons (pg_name (i := 8) nd rfl (Or.inl rfl)) (pgs_cons (pg_name (i := 9) nd rfl (Or.inl rfl)) (pgs_nil)))) (pss_one (ps_if (pt_not (pt_val (pe_g (go_same c) hr passL (pa_cons (pv 2) (pa_cons (pv 4) (pa_cons (pv 8) (pa_cons (pv 9) (pa_nil)))))))) (pss_one (ps_ret (pe_bl))) (pss_nil)))) (pss_one (ps_if (pt_not (pt_val (pe_g (go_look c) hr passL (pa_cons (pv 2) (pa_cons (pv 4) (pa_cons (pv 1) (pa_cons (pe_op op_mod (pe_op op_fdiv (pv 6) (pe_int)) (pe_int)) (pa_nil)))))))) (pss_one (ps_ret (pe_bl))) (pss_nil))))))) (pss_one (ps_ret (pe_cmpR (op_eqD hr.units) (pe_lc (own := [("kind", 13)]) (g := gName 13) rfl nd (pi_range1 rfl (c.free "range") (pa_cons (pe_int) (pa_nil))) (blkOk_by (own := [("kind", 13)]) (N := ["script", "yard", "desk", "rows", "board", "left", "cell", "some", "word", "number", "switch", "part", "row", "kind"]) (sc := defScope s_law) (by decide +kernel)) (fun _ _ _ _ _ => pg_name (i := 13) nd rfl (Or.inl rfl)) (fun _ _ _ _ _ => by exact pts_one (pt_not (pt_val (pe_g (go_look c) hr passL (pa_cons (pv 2) (pa_cons (pv 4) (pa_cons (pv 1) (pa_cons (pv 13) (pa_nil))))))))) (fun _ _ _ _ _ => by exact pv 13)) (pe_lst (pa_nil)) (nomark _))))))))))), ?_⟩
    refine ⟨_, rfl, sc, ns, rfl, hs, h63, fun y Y H1 s1 ny hY h2 h5 hok => ?_⟩
    intro a dx na ndx nea
    have s2 : Same H1 (upd (upd H1 dx (.own a)) a (.ins (He.ga K "Desk") dx [])) := same_mut (same_new ndx) na
    refine ⟨a, dx, rfl, upd_same, fun H3 ha3 k3 => ⟨rfl, ?_⟩⟩
    have s13 : Same H1 H3 := fun x o e => k3 x o (s2 x o e) (ne_of_none e na)
    obtain ⟨l, us, hA⟩ := id (hY.mono s13)
    have hlen := hA.sw.len
    have h12 := hok.len
    have n9 : Y.1 < 10 ^ 9 := Nat.lt_of_le_of_lt h5 (by decide)
    refine ⟨_, rfl, y, _, 0, _, rfl, rfl, SqT.of hA.tp, rfl, _, rfl, log_small n9, _, _, rfl, rfl, ?_, (by show 1 ≤ sizeLine; decide), ?_⟩
    · rw [tN_eq]
      have := tN_len n9
      exact Nat.le_trans (Nat.add_le_add_left this _) (by decide +kernel)
    rw [tN_eq, bars_eq]
    intro r1 nr1
    have s34 := same_new (o := .lst [.str (rowOf ["bars", tN Y.1])]) nr1
    have hA4 := hA.mono s34
    refine ⟨_, rfl, y, _, 1, _, rfl, rfl, SqT.of hA4.tp, rfl, l, rfl, ⟨_, SqL.of hA4.ls⟩, fun D hD => ?_⟩
    refine lc_list (a := l) (xs := us) (LcI (upd H3 r1 (.lst [.str (rowOf ["bars", tN Y.1])])) D fun i => (Y.2.take i).map fun sw => .str (rowOf sw.words)) (LcI.start hD rfl) (fun i H5 _ h => SqL.of (h.s l _ hA4.ls)) ?_ ?_
    · intro i x H5 hx h5i
      obtain ⟨sw, hsw, t, rfl, ht⟩ := hA4.sw.get hx
      have hso := hok.sw sw (List.mem_of_getElem? hsw)
      have ht5 := h5i.s t _ ht
      refine ⟨rfl, ⟨_, rfl⟩, _, rfl, t, rfl, ⟨_, SqT.of ht5⟩, fun F hF => ?_⟩
      have hwl : sw.words.length = sw.parts.length := by
        rw [Sw.parts_eq]
        show (sw.ends.map tN).length + 1 = (sw.ends.map vN).length + 1
        rw [List.length_map, List.length_map]
      have hel : sw.ends.length ≤ 2 := by cases sw <;> simp [Sw.ends]
      have hwl2 : sw.words.length ≤ 3 := by
        show (sw.ends.map tN).length + 1 ≤ 3
        rw [List.length_map]
        omega
      refine lc_it (walk_tup (K := K) (a := t) (xs := sw.parts)) (LcI H5 F fun i => (sw.words.take i).map V.str) (LcI.start hF rfl) (fun j H6 _ h => SqT.of (h.s t _ ht5)) ?_ ?_
      · rintro j x H6 H7 hj h6 ⟨rfl, hx6⟩
        obtain ⟨w6, hw6, hxw⟩ := Sw.part_at hso hok.n hx6
        have e6 : (sw.words.take (j + 1)).map V.str = (sw.words.take j).map V.str ++ [V.str w6] := by
          rw [take_more hw6, List.map_append]
          rfl
        have l6 : ((sw.words.take j).map V.str).length ≤ 1000 := by
          rw [List.length_map, List.length_take]
          exact Nat.le_trans (Nat.min_le_right _ _) (by omega)
        rcases hxw with rfl | ⟨b, rfl, rfl, hb⟩
        · exact ⟨rfl, _, rfl, .inr ⟨_, rfl, h6.step hF (Same.refl _) e6 l6⟩⟩
        · refine ⟨rfl, _, rfl, .inl ⟨_, rfl, log_small (Nat.lt_trans hb (by decide)), ?_⟩⟩
          rw [tN_eq]
          exact h6.step hF (Same.refl _) e6 l6
      · intro H6 h6
        have hF6 : H6 F = some (.lst (sw.words.map V.str)) := by
          have z := h6.d
          rw [← hwl, List.take_of_length_le (Nat.le_refl _)] at z
          exact z
        refine ⟨_, F, sw.words, rfl, rfl, .inl (SqL.of hF6), join_small (Sw.wds hso hok.n) (by omega), ?_⟩
        refine h5i.step hD h6.s ?_ ?_
        · show (Y.2.take (i + 1)).map (fun sw => V.str (rowOf sw.words)) = _
          rw [take_more hsw, List.map_append]
          rfl
        · rw [List.length_map, List.length_take]
          exact Nat.le_trans (Nat.min_le_right _ _) (by omega)
    · intro H5 h5d
      have hD5 : H5 D = some (.lst (Y.2.map fun sw => .str (rowOf sw.words))) := by
        have z := h5d.d
        rw [hlen, List.take_of_length_le (Nat.le_refl _)] at z
        exact z
      have s35 := s34.trans h5d.s
      refine ⟨r1, D, _, _, rfl, rfl, h5d.s r1 _ upd_same, hD5, ?_, fun r nr => ?_⟩
      · rw [List.length_map]
        exact Nat.le_of_lt (small1000 (show 1 + Y.2.length ≤ 1000 by omega))
      have s36 := same_mut' (o := .lst ([V.str (rowOf ["bars", tN Y.1])] ++ Y.2.map fun sw => .str (rowOf sw.words))) s35 nr
      have hr : upd H5 r (.lst ([V.str (rowOf ["bars", tN Y.1])] ++ Y.2.map fun sw => .str (rowOf sw.words))) r = some (.lst (V.str (rowOf ["bars", tN Y.1]) :: Y.2.map fun sw => .str (rowOf sw.words))) := upd_same
      generalize upd H5 r (.lst ([V.str (rowOf ["bars", tN Y.1])] ++ Y.2.map fun sw => .str (rowOf sw.words))) = H6 at s36 hr ⊢
      have ha6 := s36 a _ ha3
      have hA6 := hA.mono s36
      clear nr hD5 h5d s35 hA4
      refine ⟨_, rfl, r, rfl, ⟨_, SqL.of hr⟩, fun D2 hD2 => ?_⟩
      have aD2 : a ≠ D2 := ne_of_none ha6 hD2
      refine lc_list (a := r) (xs := V.str (rowOf ["bars", tN Y.1]) :: Y.2.map fun sw => .str (rowOf sw.words)) (fun i H' => KeptA a H6 H' ∧ H' D2 = some (.lst []) ∧ Stg K a dx Y i H') ⟨fun x o e _ => same_new hD2 x o e, upd_same, by show _ = _; rw [upd_ne aD2]; exact ha6⟩ (fun i H7 _ h => SqL.of (h.1 r _ hr (ne_of hr ha6 (by intro z; cases z)))) ?_ ?_
      · rintro i x H7 hx ⟨k7, hD7, st⟩
        cases i with
        | zero =>
          have ex : V.str (rowOf ["bars", tN Y.1]) = x := Option.some.inj hx
          subst ex
          refine ⟨rfl, _, rfl, a, dx, _, rfl, st, dk_no _ _ (by decide +kernel) (by decide +kernel), _, rfl, .inl ⟨a, dx, .non, .non, Y.1, rfl, st, by omega, by omega, fun yd b yb db H8 hD8 k8 => ⟨rfl, _, rfl, ifnd_f rfl ?_⟩⟩⟩
          exact ⟨k7.trans k8, k8 D2 _ hD7 aD2.symm, yd, b, yb, db, hD8⟩
        | succ i =>
          have hx2 : (Y.2.map fun sw => V.str (rowOf sw.words))[i]? = some x := hx
          rw [List.getElem?_map] at hx2
          obtain ⟨sw, hsw, rfl⟩ := Option.map_eq_some_iff.mp hx2
          obtain ⟨yd, b, yb, db, hDk⟩ := st
          obtain ⟨dx2, ha7⟩ := hDk.ob
          have hil := (List.getElem?_eq_some_iff.mp hsw).1
          refine ⟨rfl, _, rfl, a, dx2, _, rfl, ha7, dk_no _ _ (by decide +kernel) (by decide +kernel), _, rfl, .inr (.inl ⟨a, yd, b, yb, db, _, sw, rfl, hDk, take_ok hok i, ?_, hok.sw sw (List.mem_of_getElem? hsw), fun yd b yb db H8 hD8 k8 => ⟨rfl, _, rfl, ifnd_f rfl ?_⟩⟩)⟩
          · show (Y.2.take i).length < 12
            rw [List.length_take]
            omega
          · refine ⟨k7.trans k8, k8 D2 _ hD7 aD2.symm, yd, b, yb, db, ?_⟩
            rw [take_more hsw]
            exact hD8
      · rintro H7 ⟨k7, hD7, st⟩
        obtain ⟨yd, b, yb, db, hDk⟩ : ∃ yd b yb db, DkAt K H7 a yd b yb db ⟨Y, 0, 0, [], 0⟩ := by
          rw [List.length_cons, List.length_map] at st
          obtain ⟨yd, b, yb, db, h⟩ := st
          rw [List.take_of_length_le (Nat.le_refl _)] at h
          exact ⟨yd, b, yb, db, h⟩
        refine ⟨Nat.zero_le _, fun l2 nl2 => ?_⟩
        have s78 := same_new (o := .lst []) nl2
        obtain ⟨d1, d2'⟩ := dp_nil (K := K) (s78 D2 _ hD7)
        obtain ⟨d3, d4⟩ := dp_nil (K := K) (H := upd H7 l2 (.lst [])) (a := l2) upd_same
        refine ⟨_, _, d1, d3, d2', d4, _, rfl, ifF (by rw [eqv_nil]; rfl) ?_⟩
        have hDk8 := hDk.mono s78
        have kk : ∀ t xs, H6 t = some (.tup xs) → upd H7 l2 (.lst []) t = some (.tup xs) := fun t xs e => s78 t _ (k7 t _ e (ne_of e ha6 (by intro z; cases z)))
        have kl : ∀ t xs, H6 t = some (.lst xs) → upd H7 l2 (.lst []) t = some (.lst xs) := fun t xs e => s78 t _ (k7 t _ e (ne_of e ha6 (by intro z; cases z)))
        have hs8 : SqL K (upd H7 l2 (.lst [])) sc (ns.map V.int) := by
          have s06 := sqUp hs ((s1.trans s13).trans s36)
          rcases s06 with (e | ⟨o, e⟩) | e
          · exact .inl (.inl (kl sc _ e))
          · exact .inl (.inr ⟨o, s78 sc _ (k7 sc _ e (ne_of e ha6 (by intro z; cases z)))⟩)
          · exact .inr e
        have hA8 : YAt (upd H7 l2 (.lst [])) y l us Y := ⟨kk _ _ hA6.tp, kl _ _ hA6.ls, hA6.sw.mono fun _ _ ⟨t, e, q⟩ => ⟨t, e, kk t _ q⟩⟩
        generalize upd H7 l2 (.lst []) = H8 at hDk8 hs8 hA8 ⊢
        clear kk kl s78 hD7 k7 st hDk d1 d3 nl2 hA6 ha6 s36 hr hA s13 s2 k3 s34 hs
        refine ⟨_, rfl, y, _, 0, _, rfl, rfl, SqT.of hA8.tp, rfl, _, rfl, y, _, 1, _, rfl, rfl, SqT.of hA8.tp, rfl, l, us, rfl, .inl (SqL.of hA8.ls), fun l3 nl3 => ⟨(by show 2 ≤ sizeLine; decide), fun t nt => ?_⟩⟩
        intro b2 ex nb2 nex nbe
        have s9 : Same H8 (upd (upd H8 l3 (.lst us)) t (.tup [vN Y.1, .ref l3])) := same_mut' (same_new nl3) nt
        have hYt : YH (upd (upd H8 l3 (.lst us)) t (.tup [vN Y.1, .ref l3])) t Y := ⟨l3, us, upd_same, by rw [upd_ne (ne_of_none upd_same nt)]; exact upd_same, hA8.sw.mono fun _ _ ⟨u, e, q⟩ => ⟨u, e, s9 u _ q⟩⟩
        generalize upd (upd H8 l3 (.lst us)) t (.tup [vN Y.1, .ref l3]) = H9 at s9 hYt nb2 nex ⊢
        have s10 : Same H9 (upd (upd H9 ex (.own b2)) b2 (.ins (He.ga K "Board") ex [])) := same_mut (same_new nex) nb2
        refine ⟨b2, t, ex, Y, rfl, upd_same, hYt.mono s10, hok, fun y2 d2 H10 hB kB ny2 nd2 => ⟨rfl, ?_⟩⟩
        have s11 : Same H9 H10 := fun x o e => kB x o (s10 x o e) (ne_of_none e nb2)
        have hDk9 := hDk8.mono s9
        obtain ⟨kvs, hdb, _⟩ := hDk9.bd.dc
        obtain ⟨bx, hb9⟩ := hDk9.bd.ob
        have hT0 : Two K H10 a yd b yb db b2 y2 d2 ⟨Y, 0, 0, [], 0⟩ := ⟨hDk9.mono s11, hB, ne_of_none hb9 nb2, ne_of_none (s10 db _ hdb) nd2⟩
        have s12 := s9.trans s11
        have hs10 := sqUp hs8 s12
        have hY10 : YH H10 y Y := ⟨l, us, hA8.mono s12⟩
        have hB0 : BOk ⟨Y, 0, 0, [], 0⟩ := ⟨hok, by show 0 < 4096; decide, by show 0 < 4096; decide, fun _ h => absurd h List.not_mem_nil, Nat.zero_le _⟩
        clear hB kB ny2 nd2 s10 s11 hDk9 hdb hb9 s12 s9 hYt nb2 nex nbe nt nl3 hs8 hA8 hDk8
        refine ⟨_, rfl, _, rfl, sc, _, rfl, hs10, fun q nq => ?_⟩
        obtain ⟨ms, ems, _⟩ := ints_of (ys := cutV (ns.map V.int) none (some 63)) (ns := ns) fun v hv => List.mem_of_mem_drop (List.mem_of_mem_take hv)
        have hml : ms.length ≤ 63 := by
          have h1 := cutV_length (ns.map V.int) none (some 63)
          rw [ems, List.length_map, List.length_map] at h1
          omega
        rw [ems]
        have sq := same_new (o := .lst (ms.map V.int)) nq
        refine ⟨q, rfl, ⟨_, SqL.of upd_same⟩, ?_⟩
        refine for_list (a := q) (xs := ms.map V.int) (fun i σ H4 => ∃ (lf : Int) (B : Bd) (v6 v7 v8 v9 : Option V), σ = [some (.ref sc), some (.ref y), some (.ref a), some (.ref r), some (.ref b2), some (.int lf), v6, v7, v8, v9, none, none, none, none] ∧ Two K H4 a yd b yb db b2 y2 d2 B ∧ B.Y = Y ∧ BOk B ∧ B.last ≤ 100 * i ∧ YH H4 y Y ∧ H4 q = some (.lst (ms.map V.int)))
          ⟨2, ⟨Y, 0, 0, [], 0⟩, none, none, none, none, rfl, hT0.mono sq, rfl, hB0, Nat.le_refl 0, hY10.mono sq, upd_same⟩ (fun i σ H4 _ h => by obtain ⟨_, _, _, _, _, _, _, _, _, _, _, _, h⟩ := h; exact SqL.of h) ?_ ?_
        · rintro i x σ H4 hx ⟨lf, B, v6, v7, v8, v9, rfl, hT, hBY, hBk, hBl, hYi, hqi⟩
          have hi := (List.getElem?_eq_some_iff.mp hx).1
          rw [List.length_map] at hi
          rw [List.getElem?_map] at hx
          obtain ⟨z, hz, rfl⟩ := Option.map_eq_some_iff.mp hx
          refine ⟨_, rfl, _, _, rfl, rfl, ⟨by decide, by decide⟩, _, rfl, z / 2, y, Y, rfl, hYi, h2, hok, fun p H5 pr np => ?_⟩
          refine ⟨_, rfl, _, _, rfl, rfl, _, rfl, ifb (fun _ => ?_) (fun _ => iteF ?_)⟩
          · refine ⟨_, rfl, _, _, rfl, rfl, ipos, rfl, _, rfl, ifb (fun _ => ?_) (fun _ => ?_)⟩
            · refine ⟨_, rfl, _, _, rfl, rfl, ?_⟩
              have hT5 := hT.mono pr.s
              obtain ⟨bx, hb5⟩ := hT5.bd.ob
              have hY5 := hYi.mono pr.s
              have hq5 := pr.s q _ hqi
              refine ⟨_, rfl, _, _, rfl, rfl, ⟨by decide, by decide⟩, _, rfl, _, rfl, b2, bx, _, rfl, hb5, bf_no _ _ _ _ _ (by decide +kernel) (by decide +kernel) (by decide +kernel) (by decide +kernel) (by decide +kernel), b2, y2, d2, B, rfl, hT5.bd, z / 16, y, Y, B.sh, rfl, hY5, h2, hok, ?_⟩
              clear hT hYi hqi np pr
              intro p H6 pr np
              have hT := hT5
              have hYi := hY5
              have hqi := hq5
              obtain ⟨qs, ⟨ps, hp, hps⟩, hfit, hql⟩ := pr.d
              have hT2 := hT.mono pr.s
              refine ⟨_, rfl, p, rfl, ⟨_, SqL.of hp⟩, ?_⟩
              refine for_list (a := p) (xs := ps) (fun j σ Hx => ∃ (B' : Bd) (v8 v9 : Option V), σ = [some (.ref sc), some (.ref y), some (.ref a), some (.ref r), some (.ref b2), some (.int (lf - 1)), some (.int z), some (.ref p), v8, v9, none, none, none, none] ∧ Two K Hx a yd b yb db b2 y2 d2 B' ∧ B'.Y = Y ∧ BOk B' ∧ B'.last ≤ 100 * i + j ∧ KT H6 Hx)
                ⟨B, v8, v9, rfl, hT2, hBY, hBk, hBl, Same.kt (Same.refl _)⟩ (fun j σ Hx _ h => by obtain ⟨_, _, _, _, _, _, _, _, kt⟩ := h; exact SqL.of (kt.2 p _ hp)) ?_ ?_
              · rintro j x σ Hx hx ⟨B', v8, v9, rfl, hTx, hY5, hk5, hl5, kt5⟩
                obtain ⟨qd, hqd, t, rfl, ht⟩ := hps.get hx
                have hj := (List.getElem?_eq_some_iff.mp hx).1
                have hjl : ps.length = qs.length := hps.len
                have hff : qd.fine B' := Dd.fit.fine (by rw [hY5]; exact hfit qd (List.mem_of_getElem? hqd)) (by rw [hY5]; exact h5) (by omega)
                refine ⟨t, _, rfl, SqT.of (kt5.1 t _ ht), rfl, _, _, rfl, _, _, rfl, rfl, ?_⟩
                refine ⟨_, rfl, _, rfl, _, rfl, _, rfl, a, yd, b, yb, db, b2, y2, d2, B', qd, rfl, hTx, hk5, hff, fun Hy hT6 kt6 => ⟨_, rfl, iteF ?_⟩⟩
                obtain ⟨n1, n2, n3⟩ := nxt_ok (q := qd) hk5
                exact ⟨nxt B' qd, _, _, rfl, hT6, n2.trans hY5, n1, by omega, kt5.trans kt6⟩
              · rintro σ Hx ⟨B', v8, v9, rfl, hTx, hY5, hk5, hl5, kt5⟩
                have hjl : ps.length = qs.length := hps.len
                have hYy := (hYi.mono pr.s).kt kt5
                refine ⟨_, rfl, _, rfl, _, rfl, _, rfl, _, _, rfl, rfl, ⟨by decide, by decide⟩, _, _, rfl, rfl, ipos, a, yd, b, yb, db, b2, y2, d2, y, B', (z / 3 % 4).toNat, ?_, hTx, by rw [hY5]; exact hYy, hk5, by omega, fun Hy s6 => ⟨_, rfl, iteF ?_⟩⟩
                · show [V.ref a, V.ref b2, V.ref y, V.int (z / 3 % 4)] = _
                  rw [vint (z / 3 % 4) (by omega)]
                exact ⟨(lf - 1), B', _, _, _, _, rfl, hTx.mono s6, hY5, hk5, by omega, hYy.mono s6, s6 q _ (kt5.2 q _ (pr.s q _ hqi))⟩
            · obtain ⟨qs, ⟨ps, hp, hps⟩, hfit, hql⟩ := pr.d
              have hT2 := hT.mono pr.s
              refine ⟨_, rfl, p, rfl, ⟨_, SqL.of hp⟩, ?_⟩
              refine for_list (a := p) (xs := ps) (fun j σ Hx => ∃ (B' : Bd) (v8 v9 : Option V), σ = [some (.ref sc), some (.ref y), some (.ref a), some (.ref r), some (.ref b2), some (.int lf), some (.int z), some (.ref p), v8, v9, none, none, none, none] ∧ Two K Hx a yd b yb db b2 y2 d2 B' ∧ B'.Y = Y ∧ BOk B' ∧ B'.last ≤ 100 * i + j ∧ KT H5 Hx)
                ⟨B, v8, v9, rfl, hT2, hBY, hBk, hBl, Same.kt (Same.refl _)⟩ (fun j σ Hx _ h => by obtain ⟨_, _, _, _, _, _, _, _, kt⟩ := h; exact SqL.of (kt.2 p _ hp)) ?_ ?_
              · rintro j x σ Hx hx ⟨B', v8, v9, rfl, hTx, hY5, hk5, hl5, kt5⟩
                obtain ⟨qd, hqd, t, rfl, ht⟩ := hps.get hx
                have hj := (List.getElem?_eq_some_iff.mp hx).1
                have hjl : ps.length = qs.length := hps.len
                have hff : qd.fine B' := Dd.fit.fine (by rw [hY5]; exact hfit qd (List.mem_of_getElem? hqd)) (by rw [hY5]; exact h5) (by omega)
                refine ⟨t, _, rfl, SqT.of (kt5.1 t _ ht), rfl, _, _, rfl, _, _, rfl, rfl, ?_⟩
                refine ⟨_, rfl, _, rfl, _, rfl, _, rfl, a, yd, b, yb, db, b2, y2, d2, B', qd, rfl, hTx, hk5, hff, fun Hy hT6 kt6 => ⟨_, rfl, iteF ?_⟩⟩
                obtain ⟨n1, n2, n3⟩ := nxt_ok (q := qd) hk5
                exact ⟨nxt B' qd, _, _, rfl, hT6, n2.trans hY5, n1, by omega, kt5.trans kt6⟩
              · rintro σ Hx ⟨B', v8, v9, rfl, hTx, hY5, hk5, hl5, kt5⟩
                have hjl : ps.length = qs.length := hps.len
                have hYy := (hYi.mono pr.s).kt kt5
                refine ⟨_, rfl, _, rfl, _, rfl, _, rfl, _, _, rfl, rfl, ⟨by decide, by decide⟩, _, _, rfl, rfl, ipos, a, yd, b, yb, db, b2, y2, d2, y, B', (z / 3 % 4).toNat, ?_, hTx, by rw [hY5]; exact hYy, hk5, by omega, fun Hy s6 => ⟨_, rfl, iteF ?_⟩⟩
                · show [V.ref a, V.ref b2, V.ref y, V.int (z / 3 % 4)] = _
                  rw [vint (z / 3 % 4) (by omega)]
                exact ⟨lf, B', _, _, _, _, rfl, hTx.mono s6, hY5, hk5, by omega, hYy.mono s6, s6 q _ (kt5.2 q _ (pr.s q _ hqi))⟩
          · obtain ⟨qs, ⟨ps, hp, hps⟩, hfit, hql⟩ := pr.d
            have hT2 := hT.mono pr.s
            refine ⟨_, rfl, p, rfl, ⟨_, SqL.of hp⟩, ?_⟩
            refine for_list (a := p) (xs := ps) (fun j σ Hx => ∃ (B' : Bd) (v8 v9 : Option V), σ = [some (.ref sc), some (.ref y), some (.ref a), some (.ref r), some (.ref b2), some (.int lf), some (.int z), some (.ref p), v8, v9, none, none, none, none] ∧ Two K Hx a yd b yb db b2 y2 d2 B' ∧ B'.Y = Y ∧ BOk B' ∧ B'.last ≤ 100 * i + j ∧ KT H5 Hx)
              ⟨B, v8, v9, rfl, hT2, hBY, hBk, hBl, Same.kt (Same.refl _)⟩ (fun j σ Hx _ h => by obtain ⟨_, _, _, _, _, _, _, _, kt⟩ := h; exact SqL.of (kt.2 p _ hp)) ?_ ?_
            · rintro j x σ Hx hx ⟨B', v8, v9, rfl, hTx, hY5, hk5, hl5, kt5⟩
              obtain ⟨qd, hqd, t, rfl, ht⟩ := hps.get hx
              have hj := (List.getElem?_eq_some_iff.mp hx).1
              have hjl : ps.length = qs.length := hps.len
              have hff : qd.fine B' := Dd.fit.fine (by rw [hY5]; exact hfit qd (List.mem_of_getElem? hqd)) (by rw [hY5]; exact h5) (by omega)
              refine ⟨t, _, rfl, SqT.of (kt5.1 t _ ht), rfl, _, _, rfl, _, _, rfl, rfl, ?_⟩
              refine ⟨_, rfl, _, rfl, _, rfl, _, rfl, a, yd, b, yb, db, b2, y2, d2, B', qd, rfl, hTx, hk5, hff, fun Hy hT6 kt6 => ⟨_, rfl, iteF ?_⟩⟩
              obtain ⟨n1, n2, n3⟩ := nxt_ok (q := qd) hk5
              exact ⟨nxt B' qd, _, _, rfl, hT6, n2.trans hY5, n1, by omega, kt5.trans kt6⟩
            · rintro σ Hx ⟨B', v8, v9, rfl, hTx, hY5, hk5, hl5, kt5⟩
              have hjl : ps.length = qs.length := hps.len
              have hYy := (hYi.mono pr.s).kt kt5
              refine ⟨_, rfl, _, rfl, _, rfl, _, rfl, _, _, rfl, rfl, ⟨by decide, by decide⟩, _, _, rfl, rfl, ipos, a, yd, b, yb, db, b2, y2, d2, y, B', (z / 3 % 4).toNat, ?_, hTx, by rw [hY5]; exact hYy, hk5, by omega, fun Hy s6 => ⟨_, rfl, iteF ?_⟩⟩
              · show [V.ref a, V.ref b2, V.ref y, V.int (z / 3 % 4)] = _
                rw [vint (z / 3 % 4) (by omega)]
              exact ⟨lf, B', _, _, _, _, rfl, hTx.mono s6, hY5, hk5, by omega, hYy.mono s6, s6 q _ (kt5.2 q _ (pr.s q _ hqi))⟩
        · rintro σ H4 ⟨lf, B, v6, v7, v8, v9, rfl, hT, hBY, hBk, hBl, hYi, hqi⟩
          refine ⟨4, rfl, by decide, by decide, fun D4 hD4 => ?_⟩
          refine lc_range (n := 4) (fun i H' => Same H4 H' ∧ H' D4 = some (.lst [])) ⟨same_new hD4, upd_same⟩ ?_ ?_
          · rintro i H5 hi ⟨s5, hD5⟩
            rw [Int.zero_add]
            exact ⟨rfl, _, rfl, _, rfl, _, rfl, _, rfl, a, yd, b, yb, db, b2, y2, d2, y, B, i, rfl, hT.mono s5, by rw [hBY]; exact hYi.mono s5, hBk, hi, fun H6 s6 => ⟨_, rfl, iteF ⟨s5.trans s6, s6 D4 _ hD5⟩⟩⟩
          · rintro H5 ⟨s5, hD5⟩
            refine ⟨Nat.zero_le _, fun l5 nl5 => ?_⟩
            obtain ⟨d1, d2'⟩ := dp_nil (K := K) (same_new (o := .lst []) nl5 D4 _ hD5)
            obtain ⟨d3, d4⟩ := dp_nil (K := K) (H := upd H5 l5 (.lst [])) (a := l5) upd_same
            refine ⟨_, _, d1, d3, d2', d4, ?_⟩
            rw [eqv_nil]
            exact hq _
end
theorem law_fact {P : Program} {w : World} {K : PySem.W.Frag} {mg : Str → Option Value} (c : Ct K mg) : ∃ fd : FuncData, (∀ (s : Shared) (v : Value), BindsTo s fd ⟨[v], []⟩ [("script", v)]) ∧ ∀ base : Heap, FnOk P w K mg base CX0 16 (He.ga K "law") fd ["script"] (spLaw K) := by
  obtain ⟨fd, F⟩ := c.sd.def_ 33 (d := d_law) rfl
  have b := FunD.bindsA (ps := ["script"]) F fun _ _ _ _ _ _ us hl => match us, hl with | [_], _ => rfl
  exact ⟨fd, fun s v => b s [v] rfl, fun base => ok_law c F⟩
end K38
open PySem PySem.W PySem.Calls PyProof.Rows
theorem PySem.Challenge.cw_earthward_k38_the_board_by_rows_holds : PySem.Challenge.rw_earthward_k38_the_board_by_rows.Holds := by
  w_on; o_law
  refine HandSHeadRun.head_any (r := OpenLaw.row PySem.Challenge.rw_earthward_k38_the_board_by_rows) (q := view (OpenLaw.row PySem.Challenge.rw_earthward_k38_the_board_by_rows).prog [89]) (H := K38.hookY) (ob := K38.obY) (M := 20000) (loose := K38.nms) (d := HandSHeadRun.topDef (OpenLaw.row PySem.Challenge.rw_earthward_k38_the_board_by_rows).prog 89) (kwd := []) K38.obY_eq
    (by kernel_rfl) (fun s => by kernel_rfl) K38.run (by kernel_rfl) (by kernel_rfl) (by kernel_rfl) (by rfl) (by first | assumption | decide +kernel) (by decide +kernel) ⟨rfl, rfl, rfl, rfl, rfl, by decide +kernel⟩ ?hw ?hc
  case hw => w_witness2
  case hc =>
    refine L2.walk_ofE (l := PySem.Challenge.rw_earthward_k38_the_board_by_rows) (n := 63) (k := 16) (x := "script") (CX := L2.CX0) rfl (by decide) (by kernel_rfl) ⟨rfl, by decide, by decide⟩ ?F (fun _ _ _ _ z => z)
    intro w mg fa h Y G hmg0
    obtain ⟨K, KX, sd, mo⟩ := Y
    have c : K38.Ct K mg := ⟨sd, mo, ⟨h, KX, G⟩⟩
    have hmg : mg ("law" : PySem.Str) = some (.ref fa) := by
      have e : (HandSHeadRun.topDef (OpenLaw.row PySem.Challenge.rw_earthward_k38_the_board_by_rows).prog 89).name = ("law" : PySem.Str) := by kernel_rfl
      rw [← e]
      exact hmg0
    have e := hmg.symm.trans (c.glo "law")
    cases e
    obtain ⟨fd, hb, hF⟩ := K38.law_fact (P := (PySem.Challenge.rw_earthward_k38_the_board_by_rows).prog) (w := w) c
    exact ⟨K, fd, K38.spLaw K, KX, hb, fun H a ns hl _ hS => ⟨a, ns, rfl, hS, hl, fun _ => rfl⟩, fun base _ _ => hF base⟩

