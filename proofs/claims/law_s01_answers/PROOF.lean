import PyProof.Rows.All
import Wide.All
import OpenK.AllK
import Wide.FinOn
import PyProof.EqAt
import PyProof.EqKinds
import PyProof.TupleCall
import Open.SpecLaws
import KE.KStateDown
import KE.OsHead
import KE.OsGo
import HandS.Base
import HandS.Call
import HandS.List
import HandS.Ends
import HandS.Exc
import HandS.TryOnly
import HandS.ExcOwn
import HandS.ExcCtx
import HandS.ExcInit
import HandS.ExcField
import HandS.Spec
import HandS.Words
import HandS.WordsList
import HandS.WordsExc
import HandS.Defaults
import HandS.Head0
import HandS.Head1
import HandS.Head2
import HandS.HeadEnd
import HandS.HeadHook1
import HandS.HeadHook2
import HandS.Codes
import HandS.Head4
import HandS.HeadNt
import HandS.Wide
import HandS.WideBits
import HandS.Comp
import HandS.Conv
import HandS.Dict
import HandS.Iter
import HandS.Flow
import HandS.TryMany
import HandS.Hot
import HandS.HotCalls
import HandS.SuiteRaise
import HandS.ExcInitHot
import HandS.SortInts
import HandS.Walk
import HandS.More
import HandS.Zip
import HandS.NoneIn
import KE.KDictZip
import HandS.ExcValue
import HandS.Rev
import HandS.Style
import KE.KAsSuite
import PySem.Challenge.RW_roomtaps_s01_answers
set_option Elab.async false
set_option Elab.async false
set_option linter.all false
set_option maxRecDepth 100000
set_option maxHeartbeats 4000000
namespace Rt
open PySem PySem.Spec PyProof.Rows PySem.Calls L2
noncomputable section
/-! ### the text, by places -/
def top (i : Nat) : Stmt := PySem.Challenge.pw_roomtaps_s01_answers.main.body.getD i (.Pass ⟨0, 0, 0, 0⟩)
abbrev s_book_fault : Stmt := top 10
abbrev s_whole_root : Stmt := top 11
abbrev s_nearest_root : Stmt := top 12
abbrev s_delay_of : Stmt := top 13
abbrev s_gain_of : Stmt := top 14
abbrev s_taps_of : Stmt := top 15
abbrev s_held : Stmt := top 21
abbrev s_Line_init : Stmt := inClass (top 22) 0
abbrev s_Line_sample : Stmt := inClass (top 22) 1
abbrev s_Line_out : Stmt := inClass (top 22) 2
abbrev s_Line_run : Stmt := inClass (top 22) 3
abbrev s_Line_past : Stmt := inClass (top 22) 4
abbrev s_Line_is_quiet : Stmt := inClass (top 22) 5
abbrev s_Fault_init : Stmt := inClass (top 28) 0
abbrev s_must_rooms : Stmt := top 29
abbrev s_sign : Stmt := top 31
abbrev s_cross : Stmt := top 32
abbrev s_Room_init : Stmt := inClass (top 33) 0
abbrev s_Room_many : Stmt := inClass (top 33) 1
abbrev s_Room_corner : Stmt := inClass (top 33) 2
abbrev s_Room_direction : Stmt := inClass (top 33) 3
abbrev s_Room_beside : Stmt := inClass (top 33) 4
abbrev s_Room_side : Stmt := inClass (top 33) 5
abbrev s_Room_mirrored : Stmt := inClass (top 33) 6
abbrev s_Room_along : Stmt := inClass (top 33) 7
abbrev s_Room_size : Stmt := inClass (top 33) 8
abbrev s_Room_is_on : Stmt := inClass (top 33) 9
abbrev s_Room_turns : Stmt := inClass (top 33) 10
abbrev s_Room_is_within : Stmt := inClass (top 33) 11
abbrev s_Room_has_height : Stmt := inClass (top 33) 12
abbrev s_Room_is_inside : Stmt := inClass (top 33) 13
abbrev s_Room_is_open : Stmt := inClass (top 33) 14
abbrev s_has_direction : Stmt := top 34
abbrev s_meet : Stmt := top 35
abbrev s_are_apart : Stmt := top 36
abbrev s_area : Stmt := top 37
abbrev s_read_room : Stmt := top 38
abbrev s_common_divisor : Stmt := top 40
abbrev s_point_of : Stmt := top 41
abbrev s_between : Stmt := top 42
abbrev s_direction : Stmt := top 43
abbrev s_from_corner : Stmt := top 44
abbrev s_ahead : Stmt := top 45
abbrev s_is_blocked_along : Stmt := top 46
abbrev s_is_blocked : Stmt := top 47
abbrev s_is_clear : Stmt := top 48
abbrev s_met : Stmt := top 49
abbrev s_Path_init : Stmt := inClass (top 50) 0
abbrev s_is_path : Stmt := top 51
abbrev s_square_between : Stmt := top 52
abbrev s_longer : Stmt := top 53
abbrev s_paths : Stmt := top 54
abbrev s_Refused_init : Stmt := inClass (top 64) 0
abbrev s_must_taps : Stmt := top 65
abbrev s_is_rate : Stmt := top 67
abbrev s_delay : Stmt := top 68
abbrev s_room_in : Stmt := top 69
abbrev s_flat : Stmt := top 70
abbrev s_taps : Stmt := top 71
abbrev s_read_taps : Stmt := top 72
abbrev s_Desk_init : Stmt := inClass (top 73) 0
abbrev s_Desk_begin : Stmt := inClass (top 73) 1
abbrev s_Desk_put : Stmt := inClass (top 73) 2
abbrev s_Desk_run : Stmt := inClass (top 73) 3
abbrev s_Desk_past : Stmt := inClass (top 73) 4
abbrev s_Desk_answered : Stmt := inClass (top 73) 5
abbrev s_Desk_called : Stmt := inClass (top 73) 6
abbrev s_call_at : Stmt := top 74
abbrev s_answers : Stmt := top 75
def d_book_fault : He.DefD := ⟨("book_fault", none), "book_fault", "book_fault", defArgs s_book_fault, defBody s_book_fault, defScope s_book_fault, [], []⟩
def d_whole_root : He.DefD := ⟨("whole_root", none), "whole_root", "whole_root", defArgs s_whole_root, defBody s_whole_root, defScope s_whole_root, [], []⟩
def d_nearest_root : He.DefD := ⟨("nearest_root", none), "nearest_root", "nearest_root", defArgs s_nearest_root, defBody s_nearest_root, defScope s_nearest_root, [], []⟩
def d_delay_of : He.DefD := ⟨("delay_of", none), "delay_of", "delay_of", defArgs s_delay_of, defBody s_delay_of, defScope s_delay_of, [], []⟩
def d_gain_of : He.DefD := ⟨("gain_of", none), "gain_of", "gain_of", defArgs s_gain_of, defBody s_gain_of, defScope s_gain_of, [], []⟩
def d_taps_of : He.DefD := ⟨("taps_of", none), "taps_of", "taps_of", defArgs s_taps_of, defBody s_taps_of, defScope s_taps_of, [], []⟩
def d_held : He.DefD := ⟨("held", none), "held", "held", defArgs s_held, defBody s_held, defScope s_held, [], []⟩
def d_Line_init : He.DefD := ⟨("Line", some "__init__"), "__init__", "Line.__init__", defArgs s_Line_init, defBody s_Line_init, defScope s_Line_init, [], []⟩
def d_Line_sample : He.DefD := ⟨("Line", some "sample"), "sample", "Line.sample", defArgs s_Line_sample, defBody s_Line_sample, defScope s_Line_sample, [], []⟩
def d_Line_out : He.DefD := ⟨("Line", some "out"), "out", "Line.out", defArgs s_Line_out, defBody s_Line_out, defScope s_Line_out, [], []⟩
def d_Line_run : He.DefD := ⟨("Line", some "run"), "run", "Line.run", defArgs s_Line_run, defBody s_Line_run, defScope s_Line_run, [], []⟩
def d_Line_past : He.DefD := ⟨("Line", some "past"), "past", "Line.past", defArgs s_Line_past, defBody s_Line_past, defScope s_Line_past, [], []⟩
def d_Line_is_quiet : He.DefD := ⟨("Line", some "is_quiet"), "is_quiet", "Line.is_quiet", defArgs s_Line_is_quiet, defBody s_Line_is_quiet, defScope s_Line_is_quiet, [], []⟩
def d_Fault_init : He.DefD := ⟨("Fault", some "__init__"), "__init__", "Fault.__init__", defArgs s_Fault_init, defBody s_Fault_init, defScope s_Fault_init, [], []⟩
def d_must_rooms : He.DefD := ⟨("must_rooms", none), "must", "must", defArgs s_must_rooms, defBody s_must_rooms, defScope s_must_rooms, [], []⟩
def d_sign : He.DefD := ⟨("sign", none), "sign", "sign", defArgs s_sign, defBody s_sign, defScope s_sign, [], []⟩
def d_cross : He.DefD := ⟨("cross", none), "cross", "cross", defArgs s_cross, defBody s_cross, defScope s_cross, [], []⟩
def d_Room_init : He.DefD := ⟨("Room", some "__init__"), "__init__", "Room.__init__", defArgs s_Room_init, defBody s_Room_init, defScope s_Room_init, [], []⟩
def d_Room_many : He.DefD := ⟨("Room", some "many"), "many", "Room.many", defArgs s_Room_many, defBody s_Room_many, defScope s_Room_many, [], []⟩
def d_Room_corner : He.DefD := ⟨("Room", some "corner"), "corner", "Room.corner", defArgs s_Room_corner, defBody s_Room_corner, defScope s_Room_corner, [], []⟩
def d_Room_direction : He.DefD := ⟨("Room", some "direction"), "direction", "Room.direction", defArgs s_Room_direction, defBody s_Room_direction, defScope s_Room_direction, [], []⟩
def d_Room_beside : He.DefD := ⟨("Room", some "beside"), "beside", "Room.beside", defArgs s_Room_beside, defBody s_Room_beside, defScope s_Room_beside, [], []⟩
def d_Room_side : He.DefD := ⟨("Room", some "side"), "side", "Room.side", defArgs s_Room_side, defBody s_Room_side, defScope s_Room_side, [], []⟩
def d_Room_mirrored : He.DefD := ⟨("Room", some "mirrored"), "mirrored", "Room.mirrored", defArgs s_Room_mirrored, defBody s_Room_mirrored, defScope s_Room_mirrored, [], []⟩
def d_Room_along : He.DefD := ⟨("Room", some "along"), "along", "Room.along", defArgs s_Room_along, defBody s_Room_along, defScope s_Room_along, [], []⟩
def d_Room_size : He.DefD := ⟨("Room", some "size"), "size", "Room.size", defArgs s_Room_size, defBody s_Room_size, defScope s_Room_size, [], []⟩
def d_Room_is_on : He.DefD := ⟨("Room", some "is_on"), "is_on", "Room.is_on", defArgs s_Room_is_on, defBody s_Room_is_on, defScope s_Room_is_on, [], []⟩
def d_Room_turns : He.DefD := ⟨("Room", some "turns"), "turns", "Room.turns", defArgs s_Room_turns, defBody s_Room_turns, defScope s_Room_turns, [], []⟩
def d_Room_is_within : He.DefD := ⟨("Room", some "is_within"), "is_within", "Room.is_within", defArgs s_Room_is_within, defBody s_Room_is_within, defScope s_Room_is_within, [], []⟩
def d_Room_has_height : He.DefD := ⟨("Room", some "has_height"), "has_height", "Room.has_height", defArgs s_Room_has_height, defBody s_Room_has_height, defScope s_Room_has_height, [], []⟩
def d_Room_is_inside : He.DefD := ⟨("Room", some "is_inside"), "is_inside", "Room.is_inside", defArgs s_Room_is_inside, defBody s_Room_is_inside, defScope s_Room_is_inside, [], []⟩
def d_Room_is_open : He.DefD := ⟨("Room", some "is_open"), "is_open", "Room.is_open", defArgs s_Room_is_open, defBody s_Room_is_open, defScope s_Room_is_open, [], []⟩
def d_has_direction : He.DefD := ⟨("has_direction", none), "has_direction", "has_direction", defArgs s_has_direction, defBody s_has_direction, defScope s_has_direction, [], []⟩
def d_meet : He.DefD := ⟨("meet", none), "meet", "meet", defArgs s_meet, defBody s_meet, defScope s_meet, [], []⟩
def d_are_apart : He.DefD := ⟨("are_apart", none), "are_apart", "are_apart", defArgs s_are_apart, defBody s_are_apart, defScope s_are_apart, [], []⟩
def d_area : He.DefD := ⟨("area", none), "area", "area", defArgs s_area, defBody s_area, defScope s_area, [], []⟩
def d_read_room : He.DefD := ⟨("read_room", none), "read_room", "read_room", defArgs s_read_room, defBody s_read_room, defScope s_read_room, [], []⟩
def d_common_divisor : He.DefD := ⟨("common_divisor", none), "common_divisor", "common_divisor", defArgs s_common_divisor, defBody s_common_divisor, defScope s_common_divisor, [], []⟩
def d_point_of : He.DefD := ⟨("point_of", none), "point_of", "point_of", defArgs s_point_of, defBody s_point_of, defScope s_point_of, [], []⟩
def d_between : He.DefD := ⟨("between", none), "between", "between", defArgs s_between, defBody s_between, defScope s_between, [], []⟩
def d_direction : He.DefD := ⟨("direction", none), "direction", "direction", defArgs s_direction, defBody s_direction, defScope s_direction, [], []⟩
def d_from_corner : He.DefD := ⟨("from_corner", none), "from_corner", "from_corner", defArgs s_from_corner, defBody s_from_corner, defScope s_from_corner, [], []⟩
def d_ahead : He.DefD := ⟨("ahead", none), "ahead", "ahead", defArgs s_ahead, defBody s_ahead, defScope s_ahead, [], []⟩
def d_is_blocked_along : He.DefD := ⟨("is_blocked_along", none), "is_blocked_along", "is_blocked_along", defArgs s_is_blocked_along, defBody s_is_blocked_along, defScope s_is_blocked_along, [], []⟩
def d_is_blocked : He.DefD := ⟨("is_blocked", none), "is_blocked", "is_blocked", defArgs s_is_blocked, defBody s_is_blocked, defScope s_is_blocked, [], []⟩
def d_is_clear : He.DefD := ⟨("is_clear", none), "is_clear", "is_clear", defArgs s_is_clear, defBody s_is_clear, defScope s_is_clear, [], []⟩
def d_met : He.DefD := ⟨("met", none), "met", "met", defArgs s_met, defBody s_met, defScope s_met, [], []⟩
def d_Path_init : He.DefD := ⟨("Path", some "__init__"), "__init__", "Path.__init__", defArgs s_Path_init, defBody s_Path_init, defScope s_Path_init, [], []⟩
def d_is_path : He.DefD := ⟨("is_path", none), "is_path", "is_path", defArgs s_is_path, defBody s_is_path, defScope s_is_path, [], []⟩
def d_square_between : He.DefD := ⟨("square_between", none), "square_between", "square_between", defArgs s_square_between, defBody s_square_between, defScope s_square_between, [], []⟩
def d_longer : He.DefD := ⟨("longer", none), "longer", "longer", defArgs s_longer, defBody s_longer, defScope s_longer, [], []⟩
def d_paths : He.DefD := ⟨("paths", none), "paths", "paths", defArgs s_paths, defBody s_paths, defScope s_paths, [], []⟩
def d_Refused_init : He.DefD := ⟨("Refused", some "__init__"), "__init__", "Refused.__init__", defArgs s_Refused_init, defBody s_Refused_init, defScope s_Refused_init, [], []⟩
def d_must_taps : He.DefD := ⟨("must_taps", none), "must", "must", defArgs s_must_taps, defBody s_must_taps, defScope s_must_taps, [], []⟩
def d_is_rate : He.DefD := ⟨("is_rate", none), "is_rate", "is_rate", defArgs s_is_rate, defBody s_is_rate, defScope s_is_rate, [], []⟩
def d_delay : He.DefD := ⟨("delay", none), "delay", "delay", defArgs s_delay, defBody s_delay, defScope s_delay, [], []⟩
def d_room_in : He.DefD := ⟨("room_in", none), "room_in", "room_in", defArgs s_room_in, defBody s_room_in, defScope s_room_in, [], []⟩
def d_flat : He.DefD := ⟨("flat", none), "flat", "flat", defArgs s_flat, defBody s_flat, defScope s_flat, [], []⟩
def d_taps : He.DefD := ⟨("taps", none), "taps", "taps", defArgs s_taps, defBody s_taps, defScope s_taps, [], []⟩
def d_read_taps : He.DefD := ⟨("read_taps", none), "read_taps", "read_taps", defArgs s_read_taps, defBody s_read_taps, defScope s_read_taps, [], []⟩
def d_Desk_init : He.DefD := ⟨("Desk", some "__init__"), "__init__", "Desk.__init__", defArgs s_Desk_init, defBody s_Desk_init, defScope s_Desk_init, [], []⟩
def d_Desk_begin : He.DefD := ⟨("Desk", some "begin"), "begin", "Desk.begin", defArgs s_Desk_begin, defBody s_Desk_begin, defScope s_Desk_begin, [], []⟩
def d_Desk_put : He.DefD := ⟨("Desk", some "put"), "put", "Desk.put", defArgs s_Desk_put, defBody s_Desk_put, defScope s_Desk_put, [], []⟩
def d_Desk_run : He.DefD := ⟨("Desk", some "run"), "run", "Desk.run", defArgs s_Desk_run, defBody s_Desk_run, defScope s_Desk_run, [], []⟩
def d_Desk_past : He.DefD := ⟨("Desk", some "past"), "past", "Desk.past", defArgs s_Desk_past, defBody s_Desk_past, defScope s_Desk_past, [], []⟩
def d_Desk_answered : He.DefD := ⟨("Desk", some "answered"), "answered", "Desk.answered", defArgs s_Desk_answered, defBody s_Desk_answered, defScope s_Desk_answered, [], []⟩
def d_Desk_called : He.DefD := ⟨("Desk", some "called"), "called", "Desk.called", defArgs s_Desk_called, defBody s_Desk_called, defScope s_Desk_called, [], []⟩
def d_call_at : He.DefD := ⟨("call_at", none), "call_at", "call_at", defArgs s_call_at, defBody s_call_at, defScope s_call_at, [], []⟩
def d_answers : He.DefD := ⟨("answers", none), "answers", "answers", defArgs s_answers, defBody s_answers, defScope s_answers, [], []⟩
def dfs0 : List He.DefD := [d_book_fault, d_whole_root, d_nearest_root, d_delay_of, d_gain_of, d_taps_of, d_held, d_Line_init, d_Line_sample, d_Line_out, d_Line_run, d_Line_past, d_Line_is_quiet, d_Fault_init, d_must_rooms, d_sign, d_cross, d_Room_init, d_Room_many, d_Room_corner, d_Room_direction, d_Room_beside, d_Room_side, d_Room_mirrored, d_Room_along, d_Room_size, d_Room_is_on, d_Room_turns, d_Room_is_within, d_Room_has_height]
def dfs1 : List He.DefD := [d_Room_is_inside, d_Room_is_open, d_has_direction, d_meet, d_are_apart, d_area, d_read_room, d_common_divisor, d_point_of, d_between, d_direction, d_from_corner, d_ahead, d_is_blocked_along, d_is_blocked, d_is_clear, d_met, d_Path_init, d_is_path, d_square_between, d_longer, d_paths, d_Refused_init, d_must_taps, d_is_rate, d_delay, d_room_in, d_flat, d_taps, d_read_taps]
def dfs2 : List He.DefD := [d_Desk_init, d_Desk_begin, d_Desk_put, d_Desk_run, d_Desk_past, d_Desk_answered, d_Desk_called, d_call_at, d_answers]
def dfs : List He.DefD := dfs0 ++ (dfs1 ++ dfs2)
def fcs0 : List He.Fa := [.int "MANY" 36, .int "BANDS" 4, .int "AIR" 32, .int "PART" 32768, .int "PART_BITS" 15, .int "STRETCH" 1024, .int "GAIN_BITS" 32, .int "MOST_GAIN" 1099511627776, .int "MOST_DELAY" 262143, .glo "book_fault", .glo "whole_root", .glo "nearest_root", .glo "delay_of", .glo "gain_of", .glo "taps_of", .int "HALF_BITS" 25, .int "UNIT" 16777216, .int "LEAST" (-2147483648), .int "GREATEST" 2147483647, .glo "held", .glo "Line", .int "MOST" 4095, .int "LEAST_CORNERS" 3, .int "MOST_CORNERS" 64, .int "MOST_STUFF" 7, .glo "Fault", .glo "must", .glo "must_rooms", .glo "sign", .glo "cross"]
def fcs1 : List He.Fa := [.glo "Room", .glo "has_direction", .glo "meet", .glo "are_apart", .glo "area", .glo "read_room", .glo "common_divisor", .glo "point_of", .glo "between", .glo "direction", .glo "from_corner", .glo "ahead", .glo "is_blocked_along", .glo "is_blocked", .glo "is_clear", .glo "met", .glo "Path", .glo "is_path", .glo "square_between", .glo "longer", .glo "paths", .int "MOST_RATE" 192000, .int "MOST_SPEED" 1048576, .int "MOST_SQUARE" 1099511627776, .int "MOST_TURNS" 4, .int "MOST_BAND" 3, .int "MOST_TAPS" 4096, .glo "NUMBERS", .glo "LISTS", .glo "Refused"]
def fcs2 : List He.Fa := [.glo "must_taps", .glo "is_rate", .glo "delay", .glo "room_in", .glo "flat", .glo "taps", .glo "read_taps", .glo "Desk", .glo "call_at", .glo "answers", .free "ValueError", .free "abs", .free "all", .free "any", .free "enumerate", .free "int", .free "len", .free "list", .free "max", .free "min", .free "range", .free "reversed", .free "sorted", .free "sum", .free "zip", .cls "Line", .mkr "Line", .noat "Line" "taps", .noat "Line" "samples", .meth "Line" "sample"]
def fcs3 : List He.Fa := [.meth "Line" "out", .meth "Line" "run", .meth "Line" "past", .meth "Line" "is_quiet", .cls "Room", .mkr "Room", .noat "Room" "height", .noat "Room" "corners", .noat "Room" "stuffs", .meth "Room" "many", .meth "Room" "corner", .meth "Room" "direction", .meth "Room" "beside", .meth "Room" "side", .meth "Room" "mirrored", .meth "Room" "along", .meth "Room" "size", .meth "Room" "is_on", .meth "Room" "turns", .meth "Room" "is_within", .meth "Room" "has_height", .meth "Room" "is_inside", .meth "Room" "is_open", .cls "Path", .mkr "Path", .noat "Path" "square", .noat "Path" "walls", .cls "Desk", .mkr "Desk", .noat "Desk" "line"]
def fcs4 : List He.Fa := [.meth "Desk" "begin", .meth "Desk" "put", .meth "Desk" "run", .meth "Desk" "past", .meth "Desk" "answered", .meth "Desk" "called", .exm "Fault" "Fault" true, .noat "Fault" "rule", .noat "Fault" "wall", .exm "Refused" "Refused" true, .noat "Refused" "numbers", .exm "Fault" "Refused" false, .exm "Refused" "Fault" false]
def fcs : List He.Fa := fcs0 ++ (fcs1 ++ (fcs2 ++ (fcs3 ++ (fcs4))))
/-! ### what is asked besides: the classes of errors, the two tables -/
def vE (vs : List Value) : Bool := decide (vs = [.type "ValueError", .type "Exception", .type "BaseException", .type "object"])
/-- an own class over ValueError with its own __init__ -/
def oexB (K : PySem.W.Frag) (C : Addr) : Bool := (match K.lookup C with
  | some ⟨.type "type", dd, .cls cd, sl⟩ => (match cd.mro, sl.toList with
    | .ref C' :: bm, [k0, k1, k2, k3, some (.builtin n), k5] => decide (C' = C) && (decide (n = "ValueError.__new__") && (vE bm && (cd.hasDict && (!cd.hasDel))))
    | _, _ => false)
  | _ => false) && (decide (PySem.W.findIn K (.ref C) "__setattr__" = some (some (.builtin "object.__setattr__"))) && (decide (PySem.W.subIn K (.ref C) (.type "BaseException") = some true) && (decide (PySem.W.typeIn K (.ref C) = some (.type "type")) && PySem.W.keepIn K (.ref C))))
def iniB (K : PySem.W.Frag) (C : Addr) : Bool := decide (PySem.W.findIn K (.ref C) "__init__" = some (some (.ref (He.ma K C "__init__")))) && decide (PySem.W.typeIn K (.ref (He.ma K C "__init__")) = some (.type "function"))
def tabN : List He.Dv := [.int 0, .int 3, .int 10, .int 0, .int 0, .int 0, .int 0, .int 0, .int 1, .int 0, .int 0]
def tabL : List He.Dv := [.int 0, .int 0, .int 2, .int 1, .int 0, .int 1, .int 0, .int 1, .int 0, .int 0, .int 0]
def exB (K : PySem.W.Frag) : Bool := oexB K (He.ga K "Fault") && (oexB K (He.ga K "Refused") && (iniB K (He.ga K "Fault") && (iniB K (He.ga K "Refused") && (xfB K (He.ga K "Fault") && (xfB K (He.ga K "Refused") && (He.tupB K "NUMBERS" tabN && He.tupB K "LISTS" tabL))))))
/-! ### the Hook -/
abbrev AlR : Type := He.AlD × Bool
def obsR (g : Addr → Option Obj) : AlR := let K := He.frG g (He.asD g 5)
  (He.obsD fcs dfs K, exB K)
def valR : AlR := (He.valD dfs, true)
structure SaysR (K : PySem.W.Frag) : Prop where
  d : He.SaysD fcs dfs K
  x : exB K = true
def hk : PySem.W.Hook where
  α := AlR
  obs := fun s => obsR s.heap.get?
  val := fun _ => valR
  says := fun _ h => ∃ K : PySem.W.Frag, K.In h ∧ SaysR K
  of := fun _ _ e => ⟨_, He.frG_in, ⟨congrArg (fun z : AlR => z.1) e, congrArg (fun z : AlR => z.2) e⟩⟩
  keeps := fun _ _ _ ⟨K, hK, c⟩ k => ⟨K, PySem.W.Frag.In.keeps hK k, c⟩
def ob (s : PySem.W.SharedT) : AlR := obsR (HandSHeadRun.getT s)
theorem ob_eq (s : PySem.W.SharedT) : ob s = hk.obs s.abs := by
  have e : HandSHeadRun.getT s = s.abs.heap.get? := funext fun a => HandSHeadRun.getT_eq s a
  show obsR (HandSHeadRun.getT s) = obsR s.abs.heap.get?
  rw [e]
def loose0 : List Str := [("MANY" : Str), ("BANDS" : Str), ("AIR" : Str), ("PART" : Str), ("PART_BITS" : Str), ("STRETCH" : Str), ("GAIN_BITS" : Str), ("MOST_GAIN" : Str), ("MOST_DELAY" : Str), ("book_fault" : Str), ("whole_root" : Str), ("nearest_root" : Str), ("delay_of" : Str), ("gain_of" : Str), ("taps_of" : Str), ("HALF_BITS" : Str), ("UNIT" : Str), ("LEAST" : Str), ("GREATEST" : Str), ("held" : Str), ("Line" : Str), ("MOST" : Str), ("LEAST_CORNERS" : Str), ("MOST_CORNERS" : Str), ("MOST_STUFF" : Str), ("Fault" : Str), ("must" : Str), ("must_rooms" : Str), ("sign" : Str), ("cross" : Str), ("Room" : Str), ("has_direction" : Str), ("meet" : Str), ("are_apart" : Str), ("area" : Str)]
def loose1 : List Str := [("read_room" : Str), ("common_divisor" : Str), ("point_of" : Str), ("between" : Str), ("direction" : Str), ("from_corner" : Str), ("ahead" : Str), ("is_blocked_along" : Str), ("is_blocked" : Str), ("is_clear" : Str), ("met" : Str), ("Path" : Str), ("is_path" : Str), ("square_between" : Str), ("longer" : Str), ("paths" : Str), ("MOST_RATE" : Str), ("MOST_SPEED" : Str), ("MOST_SQUARE" : Str), ("MOST_TURNS" : Str), ("MOST_BAND" : Str), ("MOST_TAPS" : Str), ("NUMBERS" : Str), ("LISTS" : Str), ("Refused" : Str), ("must_taps" : Str), ("is_rate" : Str), ("delay" : Str), ("room_in" : Str), ("flat" : Str), ("taps" : Str), ("read_taps" : Str), ("Desk" : Str), ("call_at" : Str)]
def loose : List Str := loose0 ++ loose1
abbrev prg : Program := PySem.Challenge.pw_roomtaps_s01_answers
abbrev qv : Program := PySem.W.view prg [75]
set_option maxHeartbeats 0 in
theorem run (w : World) (os : OsState) : (HandSHeadRun.endF (HandSHeadRun.stepQ (HandSHeadRun.denQ HandSHeadRun.tabQ) prg w) 4000 prg w os).map (fun s => (HandSHeadRun.looksF prg (PySem.W.boot_heap w.params) s.abs, HandSHeadRun.seenQ qv loose (importedModules prg.main.body) (fun s => PySem.W.xlAt qv [] s && PySem.W.recOk [] s) s.abs, ob s)) = some (true, PySem.W.openGood qv loose, hk.val w) := by
  kernel_rfl
end
end Rt
set_option Elab.async false
set_option linter.all false
set_option maxRecDepth 100000
set_option maxHeartbeats 4000000
namespace Rt
open PySem PySem.W PySem.Calls PyProof.Rows
/-! ### the looks at the row, by the kernel -/
theorem en_open : opening PySem.Challenge.rw_roomtaps_s01_answers.prog = plainProg PySem.Challenge.rw_roomtaps_s01_answers.prog.main.scope.names := by kernel_rfl
theorem en_fence (s : Shared) : fenceModules? PySem.Challenge.rw_roomtaps_s01_answers.prog s = some s := by kernel_rfl
theorem en_well : PySem.Challenge.rw_roomtaps_s01_answers.wellSaid = true := by decide +kernel
theorem en_ok : (chainsOk qv && opensWell PySem.Challenge.rw_roomtaps_s01_answers.prog) = true := by decide +kernel
theorem en_bare : PySem.Challenge.rw_roomtaps_s01_answers.prog.bare := ⟨rfl, rfl, rfl, rfl, rfl, by decide +kernel⟩
theorem en_pre : ∃ args, PySem.Challenge.rw_roomtaps_s01_answers.pre args = true ∧ WData.layableAll args = true := ⟨[.list [.int 4]], by decide +kernel, by decide +kernel⟩
end Rt
namespace Rt
open Eh
/-! ### signs -/
/-- how far left of u v a lies -/
def lf (ux uy vx vy ax ay : Rat) : Rat := (vx - ux) * (ay - uy) - (vy - uy) * (ax - ux)
def crs (ux uy vx vy ax ay : Rat) : Bool := if uy ≤ ay ∧ ay < vy then decide (0 < lf ux uy vx vy ax ay) else if vy ≤ ay ∧ ay < uy then decide (lf ux uy vx vy ax ay < 0) else false
/-- v lies level with the segment a b, strictly to its right (along x) -/
def inn (ax ay bx byy vx vy : Rat) : Bool := if ay < vy ∧ vy ≤ byy then decide (lf ax ay bx byy vx vy < 0) else if byy < vy ∧ vy ≤ ay then decide (0 < lf ax ay bx byy vx vy) else false
/-- the segments do not meet, or lie on one line -/
def Dis (la lb lu lv : Rat) : Prop := (0 < la ∧ 0 < lb) ∨ (la < 0 ∧ lb < 0) ∨ (0 < lu ∧ 0 < lv) ∨ (lu < 0 ∧ lv < 0) ∨ (la = 0 ∧ lb = 0 ∧ lu = 0 ∧ lv = 0)
/-- p x + q y with p, q of one sign -/
theorem mpp {x y : Rat} (h : 0 < x) (k : 0 < y) : 0 < x * y := Rat.mul_pos h k
theorem mnn {x y : Rat} (h : 0 ≤ x) (k : 0 ≤ y) : 0 ≤ x * y := Rat.mul_nonneg h k
theorem pos_of_mul {x y : Rat} (h : 0 < x * y) (k : 0 ≤ y) : 0 < x := by
  by_cases z : 0 < x
  · exact z
  · have := mnn (x := -x) (y := y) (by grind) k
    grind
theorem id1 (ux uy vx vy ax ay bx byy : Rat) : lf ux uy vx vy ax ay + lf ax ay bx byy ux uy = lf ux uy vx vy bx byy + lf ax ay bx byy vx vy := by
  unfold lf; grind
theorem id2 (ux uy vx vy ax ay bx byy : Rat) : lf ux uy vx vy ax ay * byy - lf ux uy vx vy bx byy * ay + lf ax ay bx byy ux uy * vy - lf ax ay bx byy vx vy * uy = 0 := by
  unfold lf; grind
section
variable {ya yb yu yv la lb lu lv : Rat}
/-- a, b level with u v (upwards): a strictly left, b not: the segments meet -/
theorem mixA (I1 : la + lu = lb + lv) (I2 : la * yb - lb * ya + lu * yv - lv * yu = 0) (h1 : yu ≤ ya) (h2 : ya < yv) (h3 : yu ≤ yb) (h4 : yb < yv) (d : Dis la lb lu lv) : (0 < la) = (0 < lb) := by
  have e : la * (yb - yu) + (-lb) * (ya - yu) + lu * (yv - yu) = 0 := by grind
  have e2 : la * (yv - yb) + (-lb) * (yv - ya) = lv * (yv - yu) := by grind
  have e3 : lb * (ya - yu) + (-la) * (yb - yu) + (-lu) * (yv - yu) = 0 := by grind
  have e4 : lb * (yv - ya) + (-la) * (yv - yb) = (-lv) * (yv - yu) := by grind
  unfold Dis at d
  by_cases p : 0 < la <;> by_cases q : 0 < lb
  · simp [p, q]
  · have k1 := mnn (x := la) (y := yb - yu) (by grind) (by grind)
    have k2 := mnn (x := -lb) (y := ya - yu) (by grind) (by grind)
    have k3 := mpp (x := la) (y := yv - yb) (by grind) (by grind)
    have k4 := mnn (x := -lb) (y := yv - ya) (by grind) (by grind)
    have l1 : 0 < lv := pos_of_mul (y := yv - yu) (by grind) (by grind)
    have l2 : ¬ 0 < lu := fun z => by
      have := mpp (x := lu) (y := yv - yu) z (by grind)
      grind
    grind
  · have k1 := mnn (x := lb) (y := ya - yu) (by grind) (by grind)
    have k2 := mnn (x := -la) (y := yb - yu) (by grind) (by grind)
    have k3 := mpp (x := lb) (y := yv - ya) (by grind) (by grind)
    have k4 := mnn (x := -la) (y := yv - yb) (by grind) (by grind)
    have l1 : 0 < -lv := pos_of_mul (y := yv - yu) (by grind) (by grind)
    have l2 : ¬ 0 < -lu := fun z => by
      have := mpp (x := -lu) (y := yv - yu) z (by grind)
      grind
    grind
  · simp [p, q]
/-- only a at or above u: yu ≤ ya < yv, yb < yu -/
theorem mixB (I1 : la + lu = lb + lv) (I2 : la * yb - lb * ya + lu * yv - lv * yu = 0) (h1 : yu ≤ ya) (h2 : ya < yv) (h3 : yb < yu) (d : Dis la lb lu lv) : (0 < la) = (0 < lu) := by
  have e : la * (yu - yb) + lb * (ya - yu) + (-lu) * (yv - yu) = 0 := by grind
  have e2 : la * (ya - yb) + (-lu) * (yv - ya) = lv * (ya - yu) := by grind
  unfold Dis at d
  by_cases p : 0 < la <;> by_cases q : 0 < lu
  · simp [p, q]
  · have k1 := mpp (x := la) (y := yu - yb) (by grind) (by grind)
    have k2 := mnn (x := -lu) (y := yv - yu) (by grind) (by grind)
    have k3 := mpp (x := la) (y := ya - yb) (by grind) (by grind)
    have k4 := mnn (x := -lu) (y := yv - ya) (by grind) (by grind)
    have l1 : 0 < lv := pos_of_mul (y := ya - yu) (by grind) (by grind)
    have l2 : 0 < -lb := pos_of_mul (y := ya - yu) (by grind) (by grind)
    grind
  · have k1 := mnn (x := -la) (y := yu - yb) (by grind) (by grind)
    have k2 := mpp (x := lu) (y := yv - yu) (by grind) (by grind)
    have k3 := mnn (x := -la) (y := ya - yb) (by grind) (by grind)
    have k4 := mpp (x := lu) (y := yv - ya) (by grind) (by grind)
    have l1 : 0 < -lv := pos_of_mul (y := ya - yu) (by grind) (by grind)
    have l2 : 0 < lb := pos_of_mul (y := ya - yu) (by grind) (by grind)
    grind
  · simp [p, q]
/-- the one not at or above: a is below u: ya < yu, all others not -/
theorem mixC (I1 : la + lu = lb + lv) (I2 : la * yb - lb * ya + lu * yv - lv * yu = 0) (h1 : ya < yu) (h2 : yv ≤ ya) (h3 : yu ≤ yb) (d : Dis la lb lu lv) : (la < 0) = (lu < 0) := by
  have e : la * (yb - yu) + lb * (yu - ya) + (-lu) * (yu - yv) = 0 := by grind
  have e2 : la * (yb - ya) + (-lu) * (ya - yv) = lv * (yu - ya) := by grind
  unfold Dis at d
  by_cases p : la < 0 <;> by_cases q : lu < 0
  · simp [p, q]
  · have k1 := mnn (x := -la) (y := yb - yu) (by grind) (by grind)
    have k2 := mnn (x := lu) (y := yu - yv) (by grind) (by grind)
    have k3 := mpp (x := -la) (y := yb - ya) (by grind) (by grind)
    have k4 := mnn (x := lu) (y := ya - yv) (by grind) (by grind)
    have l1 : 0 < -lv := pos_of_mul (y := yu - ya) (by grind) (by grind)
    have l2 : ¬ 0 < -lb := fun z => by
      have := mpp (x := -lb) (y := yu - ya) z (by grind)
      grind
    grind
  · have k1 := mnn (x := la) (y := yb - yu) (by grind) (by grind)
    have k2 := mpp (x := -lu) (y := yu - yv) (by grind) (by grind)
    have k3 := mnn (x := la) (y := yb - ya) (by grind) (by grind)
    have k4 := mnn (x := -lu) (y := ya - yv) (by grind) (by grind)
    have l1 : ¬ 0 < -lv := fun z => by
      have := mpp (x := -lv) (y := yu - ya) z (by grind)
      grind
    have l2 : 0 < -lb := pos_of_mul (y := yu - ya) (by grind) (by grind)
    grind
  · simp [p, q]
end
end Rt
namespace Rt
open Eh
section
variable {ya yb yu yv la lb lu lv : Rat}
theorem Dis.neg (d : Dis la lb lu lv) : Dis (-la) (-lb) (-lu) (-lv) := by unfold Dis at *; grind
theorem Dis.ab (d : Dis la lb lu lv) : Dis lb la (-lu) (-lv) := by unfold Dis at *; grind
theorem Dis.uv (d : Dis la lb lu lv) : Dis (-la) (-lb) lv lu := by unfold Dis at *; grind
theorem Dis.tr (d : Dis la lb lu lv) : Dis lu lv la lb := by unfold Dis at *; grind
theorem mixA' (I1 : la + lu = lb + lv) (I2 : la * yb - lb * ya + lu * yv - lv * yu = 0) (h1 : yu < ya) (h2 : ya ≤ yv) (h3 : yu < yb) (h4 : yb ≤ yv) (d : Dis la lb lu lv) : (0 < la) = (0 < lb) :=
  mixA (ya := -ya) (yb := -yb) (yu := -yv) (yv := -yu) (la := la) (lb := lb) (lu := -lv) (lv := -lu) (by grind) (by grind) (by grind) (by grind) (by grind) (by grind) (by unfold Dis at *; grind)
end
/-- the cases of S1 by the flags -/
theorem S1c (uy vy ay byy la lb lu lv : Rat) (I1 : la + lu = lb + lv) (I2 : la * byy - lb * ay + lu * vy - lv * uy = 0) (d : Dis la lb lu lv) :
    ((if uy ≤ ay ∧ ay < vy then decide (0 < la) else if vy ≤ ay ∧ ay < uy then decide (la < 0) else false) ^^ (if uy ≤ byy ∧ byy < vy then decide (0 < lb) else if vy ≤ byy ∧ byy < uy then decide (lb < 0) else false)) =
    ((if ay < uy ∧ uy ≤ byy then decide (lu < 0) else if byy < uy ∧ uy ≤ ay then decide (0 < lu) else false) ^^ (if ay < vy ∧ vy ≤ byy then decide (lv < 0) else if byy < vy ∧ vy ≤ ay then decide (0 < lv) else false)) := by
  have J1 : lb + -lu = la + -lv := by grind
  have J2 : lb * ay - la * byy + -lu * vy - -lv * uy = 0 := by grind
  have K1 : -la + lv = -lb + lu := by grind
  have K2 : -la * byy - -lb * ay + lv * uy - lu * vy = 0 := by grind
  have L1 : -lb + -lv = -la + -lu := by grind
  have L2 : -lb * ay - -la * byy + -lv * uy - -lu * vy = 0 := by grind
  have M1 : lu + -lb = lv + -la := by grind
  have M2 : lu * vy - lv * uy + -lb * ay - -la * byy = 0 := by grind
  have N1 : -lu + -la = -lv + -lb := by grind
  have N2 : -lu * vy - -lv * uy + -la * byy - -lb * ay = 0 := by grind
  have ng : ∀ z : Rat, (-z < 0) = (0 < z) := fun z => by grind
  have ng2 : ∀ z : Rat, (0 < -z) = (z < 0) := fun z => by grind
  by_cases au : uy ≤ ay <;> by_cases av : vy ≤ ay <;> by_cases bu : uy ≤ byy <;> by_cases bv : vy ≤ byy <;>
    simp only [au, av, bu, bv, Rat.not_le.mp, ← Rat.not_le, not_true_eq_false, not_false_eq_true, and_self, and_true, and_false, true_and, false_and, if_true, if_false, Bool.xor_false, Bool.false_xor, Bool.xor_self]
  all_goals try simp only [Rat.not_le]
  -- 1110
  · have k := mixC (ya := byy) (yb := ay) (yu := vy) (yv := uy) L1 L2 (by grind) bu av d.ab.uv
    simp only [ng] at k
    simp only [k]
  -- 1101
  · have k := mixC (ya := byy) (yb := ay) (yu := uy) (yv := vy) J1 J2 (by grind) bv au d.ab
    simp only [ng] at k
    simp only [k]
  -- 1100
  · have k := mixA' (ya := uy) (yb := vy) (yu := byy) (yv := ay) M1 M2 (by grind) au (by grind) av (by unfold Dis at *; grind)
    simp only [k, Bool.xor_self]
  -- 1011
  · have k := mixC (ya := ay) (yb := byy) (yu := vy) (yv := uy) K1 K2 (by grind) au bv d.uv
    simp only [ng] at k
    simp only [k]
  -- 1010
  · have k := mixA (ya := ay) (yb := byy) (yu := uy) (yv := vy) I1 I2 au (by grind) bu (by grind) d
    simp only [k, Bool.xor_self]
  -- 1001
  · exfalso; grind
  -- 1000
  · have k := mixB (ya := ay) (yb := byy) (yu := uy) (yv := vy) I1 I2 au (by grind) (by grind) d
    simp only [k]
  -- 0111
  · have k := mixC (ya := ay) (yb := byy) (yu := uy) (yv := vy) I1 I2 (by grind) av bu d
    simp only [k]
  -- 0110
  · exfalso; grind
  -- 0101
  · have k := mixA (ya := ay) (yb := byy) (yu := vy) (yv := uy) K1 K2 av (by grind) bv (by grind) d.uv
    simp only [ng2] at k
    simp only [k, Bool.xor_self]
  -- 0100
  · have k := mixB (ya := ay) (yb := byy) (yu := vy) (yv := uy) K1 K2 av (by grind) (by grind) d.uv
    simp only [ng2] at k
    simp only [k]
  -- 0011
  · have k := mixA' (ya := uy) (yb := vy) (yu := ay) (yv := byy) N1 N2 (by grind) bu (by grind) bv d.neg.tr
    simp only [ng2] at k
    simp only [k, Bool.xor_self]
  -- 0010
  · have k := mixB (ya := byy) (yb := ay) (yu := uy) (yv := vy) J1 J2 bu (by grind) (by grind) d.ab
    simp only [ng2] at k
    simp only [k]
  -- 0001
  · have k := mixB (ya := byy) (yb := ay) (yu := vy) (yv := uy) L1 L2 bv (by grind) (by grind) d.ab.uv
    simp only [ng2] at k
    simp only [k]
/-- S1: a line that a segment does not meet: crossing a, crossing b against its ends beside the segment -/
theorem S1 (ux uy vx vy ax ay bx byy : Rat) (d : Dis (lf ux uy vx vy ax ay) (lf ux uy vx vy bx byy) (lf ax ay bx byy ux uy) (lf ax ay bx byy vx vy)) :
    (crs ux uy vx vy ax ay ^^ crs ux uy vx vy bx byy) = (inn ax ay bx byy ux uy ^^ inn ax ay bx byy vx vy) :=
  S1c uy vy ay byy _ _ _ _ (id1 ux uy vx vy ax ay bx byy) (id2 ux uy vx vy ax ay bx byy) d
end Rt
namespace Rt
open Eh
/-! ### xor over the first n -/
def px (f : Nat → Bool) : Nat → Bool
  | 0 => false
  | n + 1 => px f n ^^ f n
theorem px_congr {f g : Nat → Bool} : ∀ {n : Nat}, (∀ i, i < n → f i = g i) → px f n = px g n
  | 0, _ => rfl
  | n + 1, h => by
    unfold px
    rw [px_congr fun i hi => h i (by omega), h n (by omega)]
theorem px_false {f : Nat → Bool} {n : Nat} (h : ∀ i, i < n → f i = false) : px f n = false := by
  induction n with
  | zero => rfl
  | succ n ih =>
    unfold px
    rw [ih fun i hi => h i (by omega), h n (by omega)]
    rfl
theorem px_one {f : Nat → Bool} {n j : Nat} (hj : j < n) (h : ∀ i, i < n → i ≠ j → f i = false) : px f n = f j := by
  induction n with
  | zero => omega
  | succ n ih =>
    unfold px
    by_cases e : j = n
    · subst e
      rw [px_false fun i hi => h i (by omega) (by omega), Bool.false_xor]
    · rw [ih (by omega) fun i hi hn => h i (by omega) hn, h n (by omega) (by omega), Bool.xor_false]
theorem px_xor (f g : Nat → Bool) : ∀ n, px (fun i => f i ^^ g i) n = (px f n ^^ px g n)
  | 0 => rfl
  | n + 1 => by
    unfold px
    rw [px_xor f g n]
    cases px f n <;> cases px g n <;> cases f n <;> cases g n <;> rfl
theorem px_tele (g : Nat → Bool) : ∀ n, px (fun i => g i ^^ g (i + 1)) n = (g 0 ^^ g n)
  | 0 => by
    unfold px
    simp
  | n + 1 => by
    unfold px
    rw [px_tele g n]
    cases g 0 <;> cases g n <;> cases g (n + 1) <;> rfl
/-! ### a closed line -/
structure Pol (n : Nat) (cx cy : Nat → Rat) : Prop where
  n3 : 3 ≤ n
  perx : ∀ i, cx (i + n) = cx i
  pery : ∀ i, cy (i + n) = cy i
  turn : ∀ i, (cx (i + 1) - cx i) * (cy (i + 2) - cy (i + 1)) - (cy (i + 1) - cy i) * (cx (i + 2) - cx (i + 1)) ≠ 0
  apart : ∀ i j, i < n → j < n → i ≠ j → (i + 1) % n ≠ j → (j + 1) % n ≠ i →
    Dis (lf (cx j) (cy j) (cx (j + 1)) (cy (j + 1)) (cx i) (cy i)) (lf (cx j) (cy j) (cx (j + 1)) (cy (j + 1)) (cx (i + 1)) (cy (i + 1)))
      (lf (cx i) (cy i) (cx (i + 1)) (cy (i + 1)) (cx j) (cy j)) (lf (cx i) (cy i) (cx (i + 1)) (cy (i + 1)) (cx (j + 1)) (cy (j + 1)))
section
variable {n : Nat} {cx cy : Nat → Rat}
/-- does line i cross the way from a along x -/
def cri (cx cy : Nat → Rat) (i : Nat) (ax ay : Rat) : Bool := crs (cx i) (cy i) (cx (i + 1)) (cy (i + 1)) ax ay
def par (n : Nat) (cx cy : Nat → Rat) (ax ay : Rat) : Bool := px (fun i => cri cx cy i ax ay) n
/-- what line i does not balance -/
def dfc (cx cy : Nat → Rat) (ax ay bx byy : Rat) (i : Nat) : Bool := (cri cx cy i ax ay ^^ cri cx cy i bx byy) ^^ (inn ax ay bx byy (cx i) (cy i) ^^ inn ax ay bx byy (cx (i + 1)) (cy (i + 1)))
theorem par_xor (P : Pol n cx cy) (ax ay bx byy : Rat) : (par n cx cy ax ay ^^ par n cx cy bx byy) = px (dfc cx cy ax ay bx byy) n := by
  have e : px (dfc cx cy ax ay bx byy) n = _ := px_xor (fun i => cri cx cy i ax ay ^^ cri cx cy i bx byy) (fun i => inn ax ay bx byy (cx i) (cy i) ^^ inn ax ay bx byy (cx (i + 1)) (cy (i + 1))) n
  rw [e, px_xor, px_tele fun i => inn ax ay bx byy (cx i) (cy i)]
  have hx : cx n = cx 0 := by have := P.perx 0; rwa [Nat.zero_add] at this
  have hy : cy n = cy 0 := by have := P.pery 0; rwa [Nat.zero_add] at this
  simp only [hx, hy, Bool.xor_self, Bool.xor_false]
  rfl
/-- segment a b and line j do not meet -/
def DisL (cx cy : Nat → Rat) (ax ay bx byy : Rat) (j : Nat) : Prop :=
  Dis (lf (cx j) (cy j) (cx (j + 1)) (cy (j + 1)) ax ay) (lf (cx j) (cy j) (cx (j + 1)) (cy (j + 1)) bx byy) (lf ax ay bx byy (cx j) (cy j)) (lf ax ay bx byy (cx (j + 1)) (cy (j + 1)))
theorem dfc_of {ax ay bx byy : Rat} {j : Nat} (d : DisL cx cy ax ay bx byy j) : dfc cx cy ax ay bx byy j = false := by
  unfold dfc cri
  rw [S1 _ _ _ _ _ _ _ _ d, Bool.xor_self]
theorem per_mod (P : Pol n cx cy) (k : Nat) : cx (k % n) = cx k ∧ cy (k % n) = cy k := by
  have key : ∀ q r, cx (r + q * n) = cx r ∧ cy (r + q * n) = cy r := by
    intro q r
    induction q with
    | zero => simp
    | succ q ih =>
      have e : r + (q + 1) * n = r + q * n + n := by rw [Nat.succ_mul]; omega
      rw [e, P.perx, P.pery]
      exact ih
  have e : k % n + (k / n) * n = k := by rw [Nat.mul_comm]; exact Nat.mod_add_div k n
  have h := key (k / n) (k % n)
  rw [e] at h
  exact ⟨h.1.symm, h.2.symm⟩
theorem per_mod1 (P : Pol n cx cy) (k : Nat) : cx (k % n + 1) = cx (k + 1) ∧ cy (k % n + 1) = cy (k + 1) := by
  have h := per_mod P (k % n + 1)
  have h2 := per_mod P (k + 1)
  have e : (k % n + 1) % n = (k + 1) % n := by simp [Nat.add_mod]
  rw [e] at h
  exact ⟨h.1.symm.trans h2.1, h.2.symm.trans h2.2⟩
theorem dfc_mod (P : Pol n cx cy) (ax ay bx byy : Rat) (k : Nat) : dfc cx cy ax ay bx byy (k % n) = dfc cx cy ax ay bx byy k := by
  unfold dfc cri
  rw [(per_mod P k).1, (per_mod P k).2, (per_mod1 P k).1, (per_mod1 P k).2]
/-! ### points on a line -/
def sx (cx : Nat → Rat) (i : Nat) (s : Rat) : Rat := cx i + s * (cx (i + 1) - cx i)
/-- two points of line i against another line -/
theorem dis_sub {j i : Nat} {s t : Rat} (hs : 0 ≤ s) (hs1 : s ≤ 1) (ht : 0 ≤ t) (ht1 : t ≤ 1) (hst : s ≠ t)
    (d : Dis (lf (cx j) (cy j) (cx (j + 1)) (cy (j + 1)) (cx i) (cy i)) (lf (cx j) (cy j) (cx (j + 1)) (cy (j + 1)) (cx (i + 1)) (cy (i + 1)))
      (lf (cx i) (cy i) (cx (i + 1)) (cy (i + 1)) (cx j) (cy j)) (lf (cx i) (cy i) (cx (i + 1)) (cy (i + 1)) (cx (j + 1)) (cy (j + 1)))) :
    DisL cx cy (sx cx i s) (sx cy i s) (sx cx i t) (sx cy i t) j := by
  unfold DisL
  have e1 : ∀ s, lf (cx j) (cy j) (cx (j + 1)) (cy (j + 1)) (sx cx i s) (sx cy i s) = (1 - s) * lf (cx j) (cy j) (cx (j + 1)) (cy (j + 1)) (cx i) (cy i) + s * lf (cx j) (cy j) (cx (j + 1)) (cy (j + 1)) (cx (i + 1)) (cy (i + 1)) := by
    intro s
    unfold lf sx
    grind
  have e2 : ∀ ux uy, lf (sx cx i s) (sx cy i s) (sx cx i t) (sx cy i t) ux uy = (t - s) * lf (cx i) (cy i) (cx (i + 1)) (cy (i + 1)) ux uy := by
    intro ux uy
    unfold lf sx
    grind
  rw [e1, e1, e2, e2]
  generalize lf (cx j) (cy j) (cx (j + 1)) (cy (j + 1)) (cx i) (cy i) = la at *
  generalize lf (cx j) (cy j) (cx (j + 1)) (cy (j + 1)) (cx (i + 1)) (cy (i + 1)) = lb at *
  generalize lf (cx i) (cy i) (cx (i + 1)) (cy (i + 1)) (cx j) (cy j) = lu at *
  generalize lf (cx i) (cy i) (cx (i + 1)) (cy (i + 1)) (cx (j + 1)) (cy (j + 1)) = lv at *
  clear e1 e2
  have comb : ∀ s a b : Rat, 0 ≤ s → s ≤ 1 → 0 < a → 0 < b → 0 < (1 - s) * a + s * b := by
    intro s a b h0 h1 ha hb
    have k1 := mnn (x := 1 - s) (y := a) (by grind) (by grind)
    have k2 := mnn (x := s) (y := b) (by grind) (by grind)
    by_cases z : 0 < s
    · have := mpp z hb
      grind
    · have := mpp (x := 1 - s) (y := a) (by grind) ha
      grind
  rcases d with ⟨h1, h2⟩ | ⟨h1, h2⟩ | ⟨h1, h2⟩ | ⟨h1, h2⟩ | ⟨h1, h2, h3, h4⟩
  · exact .inl ⟨comb s la lb hs hs1 h1 h2, comb t la lb ht ht1 h1 h2⟩
  · have k1 := comb s (-la) (-lb) hs hs1 (by grind) (by grind)
    have k2 := comb t (-la) (-lb) ht ht1 (by grind) (by grind)
    exact .inr (.inl ⟨by grind, by grind⟩)
  · by_cases z : s < t
    · exact .inr (.inr (.inl ⟨mpp (by grind) h1, mpp (by grind) h2⟩))
    · have k1 := mpp (x := s - t) (y := lu) (by grind) h1
      have k2 := mpp (x := s - t) (y := lv) (by grind) h2
      exact .inr (.inr (.inr (.inl ⟨by grind, by grind⟩)))
  · by_cases z : s < t
    · have k1 := mpp (x := t - s) (y := -lu) (by grind) (by grind)
      have k2 := mpp (x := t - s) (y := -lv) (by grind) (by grind)
      exact .inr (.inr (.inr (.inl ⟨by grind, by grind⟩)))
    · have k1 := mpp (x := s - t) (y := -lu) (by grind) (by grind)
      have k2 := mpp (x := s - t) (y := -lv) (by grind) (by grind)
      exact .inr (.inr (.inl ⟨by grind, by grind⟩))
  · refine .inr (.inr (.inr (.inr ⟨by grind, by grind, by grind, by grind⟩)))
/-- .. against line i itself -/
theorem dis_self {i : Nat} {s t : Rat} : DisL cx cy (sx cx i s) (sx cy i s) (sx cx i t) (sx cy i t) i := by
  unfold DisL
  refine .inr (.inr (.inr (.inr ⟨?_, ?_, ?_, ?_⟩))) <;> (unfold lf sx; grind)
/-- .. against the next line, its first corner left out -/
theorem dis_next (P : Pol n cx cy) {i : Nat} {s t : Rat} (hs : s < 1) (ht : t < 1) : DisL cx cy (sx cx i s) (sx cy i s) (sx cx i t) (sx cy i t) (i + 1) := by
  unfold DisL
  have e1 : ∀ s, lf (cx (i + 1)) (cy (i + 1)) (cx (i + 1 + 1)) (cy (i + 1 + 1)) (sx cx i s) (sx cy i s) = (1 - s) * ((cx (i + 1) - cx i) * (cy (i + 2) - cy (i + 1)) - (cy (i + 1) - cy i) * (cx (i + 2) - cx (i + 1))) := by
    intro s
    show lf (cx (i + 1)) (cy (i + 1)) (cx (i + 2)) (cy (i + 2)) (sx cx i s) (sx cy i s) = _
    unfold lf sx
    grind
  rw [e1, e1]
  have h := P.turn i
  generalize (cx (i + 1) - cx i) * (cy (i + 2) - cy (i + 1)) - (cy (i + 1) - cy i) * (cx (i + 2) - cx (i + 1)) = X at h ⊢
  by_cases z : 0 < X
  · exact .inl ⟨mpp (by grind) z, mpp (by grind) z⟩
  · have k1 := mpp (x := 1 - s) (y := -X) (by grind) (by grind)
    have k2 := mpp (x := 1 - t) (y := -X) (by grind) (by grind)
    exact .inr (.inl ⟨by grind, by grind⟩)
/-- .. against the line before, its last corner left out -/
theorem dis_prev (P : Pol n cx cy) {i : Nat} {s t : Rat} (hs : 0 < s) (ht : 0 < t) : DisL cx cy (sx cx (i + 1) s) (sx cy (i + 1) s) (sx cx (i + 1) t) (sx cy (i + 1) t) i := by
  unfold DisL
  have e1 : ∀ s, lf (cx i) (cy i) (cx (i + 1)) (cy (i + 1)) (sx cx (i + 1) s) (sx cy (i + 1) s) = s * ((cx (i + 1) - cx i) * (cy (i + 2) - cy (i + 1)) - (cy (i + 1) - cy i) * (cx (i + 2) - cx (i + 1))) := by
    intro s
    unfold lf sx
    grind
  rw [e1, e1]
  have h := P.turn i
  generalize (cx (i + 1) - cx i) * (cy (i + 2) - cy (i + 1)) - (cy (i + 1) - cy i) * (cx (i + 2) - cx (i + 1)) = X at h ⊢
  by_cases z : 0 < X
  · exact .inl ⟨mpp (by grind) z, mpp (by grind) z⟩
  · have k1 := mpp (x := s) (y := -X) (by grind) (by grind)
    have k2 := mpp (x := t) (y := -X) (by grind) (by grind)
    exact .inr (.inl ⟨by grind, by grind⟩)
end
end Rt
namespace Rt
open Eh
theorem sg1 {S X : Rat} (h : 0 < S) : (0 < S * X) = (0 < X) := by
  apply propext
  constructor
  · intro k
    by_cases z : 0 < X
    · exact z
    · have := mnn (x := S) (y := -X) (by grind) (by grind)
      grind
  · exact fun k => mpp h k
theorem sg2 {S X : Rat} (h : 0 < S) : (S * X < 0) = (X < 0) := by
  have k := sg1 (X := -X) h
  have e1 : (0 < S * -X) = (S * X < 0) := by grind
  have e2 : (0 < -X) = (X < 0) := by grind
  rw [e1, e2] at k
  exact k
/-- the corner, its first half: p = c - S A, S > 0, the line c .. c + B -/
theorem kap1 (x y ax ay bx byy S : Rat) (hS : 0 < S) : (crs x y (x + bx) (y + byy) (x - S * ax) (y - S * ay) ^^ inn (x - S * ax) (y - S * ay) x y (x + bx) (y + byy)) =
    (if ay ≤ 0 ∧ 0 < byy then decide (0 < ax * byy - ay * bx) else if 0 < ay ∧ byy ≤ 0 then decide (ax * byy - ay * bx < 0) else false) := by
  have e1 : lf x y (x + bx) (y + byy) (x - S * ax) (y - S * ay) = S * (ax * byy - ay * bx) := by unfold lf; grind
  have e2 : lf (x - S * ax) (y - S * ay) x y (x + bx) (y + byy) = S * (ax * byy - ay * bx) := by unfold lf; grind
  unfold crs inn
  rw [e1, e2]
  simp only [sg1 hS, sg2 hS]
  generalize ax * byy - ay * bx = X
  have z1 := sg1 (X := ay) hS
  have z2 := sg2 (X := ay) hS
  generalize S * ay = w at *
  clear e1 e2
  have c1 : (y ≤ y - w) = (w ≤ 0) := by grind
  have c2 : (y - w < y + byy) = (-w < byy) := by grind
  have c3 : (y + byy ≤ y - w) = (byy ≤ -w) := by grind
  have c4 : (y - w < y) = (0 < w) := by grind
  have c5 : (y + byy ≤ y) = (byy ≤ 0) := by grind
  have c6 : (y < y + byy) = (0 < byy) := by grind
  simp only [c1, c2, c3, c4, c5, c6]
  by_cases h1 : 0 < ay <;> by_cases h2 : 0 < byy <;> by_cases h3 : -w < byy <;> grind
/-- .. its second half: p' = c + t B, t > 0, the line c - A .. c -/
theorem kap2 (x y ax ay bx byy t : Rat) (ht : 0 < t) : (crs (x - ax) (y - ay) x y (x + t * bx) (y + t * byy) ^^ inn x y (x + t * bx) (y + t * byy) (x - ax) (y - ay)) =
    (if 0 ≤ ay ∧ byy < 0 then decide (0 < ax * byy - ay * bx) else if ay < 0 ∧ 0 ≤ byy then decide (ax * byy - ay * bx < 0) else false) := by
  have e1 : lf (x - ax) (y - ay) x y (x + t * bx) (y + t * byy) = t * (ax * byy - ay * bx) := by unfold lf; grind
  have e2 : lf x y (x + t * bx) (y + t * byy) (x - ax) (y - ay) = t * (ax * byy - ay * bx) := by unfold lf; grind
  unfold crs inn
  rw [e1, e2]
  simp only [sg1 ht, sg2 ht]
  generalize ax * byy - ay * bx = X
  have z1 := sg1 (X := byy) ht
  have z2 := sg2 (X := byy) ht
  generalize t * byy = w at *
  clear e1 e2
  have c1 : (y - ay ≤ y + w) = (-ay ≤ w) := by grind
  have c2 : (y + w < y) = (w < 0) := by grind
  have c3 : (y ≤ y + w) = (0 ≤ w) := by grind
  have c4 : (y + w < y - ay) = (w < -ay) := by grind
  have c5 : (y < y - ay) = (ay < 0) := by grind
  have c6 : (y - ay ≤ y) = (0 ≤ ay) := by grind
  simp only [c1, c2, c3, c4, c5, c6]
  by_cases h1 : 0 ≤ ay <;> by_cases h2 : byy < 0 <;> by_cases h3 : w < -ay <;> grind
def posd (dx dy : Rat) : Bool := decide (0 < dy) || (decide (dy = 0) && decide (dx < 0))
theorem kap (ax ay bx byy : Rat) (h : ax * byy - ay * bx ≠ 0) :
    ((if ay ≤ 0 ∧ 0 < byy then decide (0 < ax * byy - ay * bx) else if 0 < ay ∧ byy ≤ 0 then decide (ax * byy - ay * bx < 0) else false) ^^
      (if 0 ≤ ay ∧ byy < 0 then decide (0 < ax * byy - ay * bx) else if ay < 0 ∧ 0 ≤ byy then decide (ax * byy - ay * bx < 0) else false)) = (posd ax ay ^^ posd bx byy) := by
  unfold posd
  by_cases a0 : ay = 0
  · subst a0
    by_cases b0 : byy = 0
    · subst b0
      exact absurd (by grind) h
    · by_cases b1 : 0 < byy
      · have k := sg1 (X := ax) b1
        have k2 := sg2 (X := ax) b1
        have e : ax * byy - 0 * bx = byy * ax := by grind
        rw [e] at h ⊢
        simp only [k, k2]
        have : ax ≠ 0 := by grind
        grind
      · have b2 : 0 < -byy := by grind
        have k := sg1 (X := ax) b2
        have k2 := sg2 (X := ax) b2
        have e : ax * byy - 0 * bx = -(-byy * ax) := by grind
        rw [e] at h ⊢
        have e1 : (0 < -(-byy * ax)) = (-byy * ax < 0) := by grind
        have e2 : (-(-byy * ax) < 0) = (0 < -byy * ax) := by grind
        simp only [e1, e2, k, k2]
        have : ax ≠ 0 := by grind
        grind
  · by_cases b0 : byy = 0
    · subst b0
      by_cases a1 : 0 < ay
      · have k := sg1 (X := bx) a1
        have k2 := sg2 (X := bx) a1
        have e : ax * 0 - ay * bx = -(ay * bx) := by grind
        rw [e] at h ⊢
        have e1 : (0 < -(ay * bx)) = (ay * bx < 0) := by grind
        have e2 : (-(ay * bx) < 0) = (0 < ay * bx) := by grind
        simp only [e1, e2, k, k2]
        have : bx ≠ 0 := by grind
        grind
      · have a2 : 0 < -ay := by grind
        have k := sg1 (X := bx) a2
        have k2 := sg2 (X := bx) a2
        have e : ax * 0 - ay * bx = -ay * bx := by grind
        rw [e] at h ⊢
        simp only [k, k2]
        have : bx ≠ 0 := by grind
        grind
    · generalize ax * byy - ay * bx = X at *
      by_cases x1 : 0 < X <;> by_cases a1 : 0 < ay <;> by_cases b1 : 0 < byy <;> grind
section
variable {n : Nat} {cx cy : Nat → Rat}
/-- to the right of line i lies above, or along x -/
def pos (cx cy : Nat → Rat) (i : Nat) : Bool := posd (cx (i + 1) - cx i) (cy (i + 1) - cy i)
theorem inn_self (ax ay bx byy : Rat) : inn ax ay bx byy ax ay = false := by
  have e : lf ax ay bx byy ax ay = 0 := by unfold lf; grind
  unfold inn
  rw [e]
  grind
theorem inn_self2 (ax ay bx byy : Rat) : inn ax ay bx byy bx byy = false := by
  have e : lf ax ay bx byy bx byy = 0 := by unfold lf; grind
  unfold inn
  rw [e]
  grind
theorem crs_self (ux uy vx vy : Rat) : crs ux uy vx vy ux uy = false := by
  have e : lf ux uy vx vy ux uy = 0 := by unfold lf; grind
  unfold crs
  rw [e]
  grind
theorem crs_self2 (ux uy vx vy : Rat) : crs ux uy vx vy vx vy = false := by
  have e : lf ux uy vx vy vx vy = 0 := by unfold lf; grind
  unfold crs
  rw [e]
  grind
/-- the corner behind line i -/
theorem corner (P : Pol n cx cy) {i : Nat} {s t : Rat} (hs : s < 1) (ht : 0 < t) :
    (dfc cx cy (sx cx i s) (sx cy i s) (sx cx i 1) (sx cy i 1) (i + 1) ^^ dfc cx cy (sx cx (i + 1) 0) (sx cy (i + 1) 0) (sx cx (i + 1) t) (sx cy (i + 1) t) i) = (pos cx cy i ^^ pos cx cy (i + 1)) := by
  have ex : ∀ cx : Nat → Rat, sx cx i 1 = cx (i + 1) := fun cx => by unfold sx; grind
  have ex0 : ∀ cx : Nat → Rat, sx cx (i + 1) 0 = cx (i + 1) := fun cx => by unfold sx; grind
  rw [ex, ex, ex0, ex0]
  unfold dfc cri
  rw [inn_self, inn_self2, crs_self, crs_self2]
  have h := kap _ _ _ _ (P.turn i)
  have k1 := kap1 (cx (i + 1)) (cy (i + 1)) (cx (i + 1) - cx i) (cy (i + 1) - cy i) (cx (i + 2) - cx (i + 1)) (cy (i + 2) - cy (i + 1)) (1 - s) (by grind)
  have k2 := kap2 (cx (i + 1)) (cy (i + 1)) (cx (i + 1) - cx i) (cy (i + 1) - cy i) (cx (i + 2) - cx (i + 1)) (cy (i + 2) - cy (i + 1)) t ht
  rw [← k1, ← k2] at h
  have a1 : ∀ cx : Nat → Rat, cx (i + 1) + (cx (i + 2) - cx (i + 1)) = cx (i + 2) := fun cx => by grind
  have a2 : ∀ cx : Nat → Rat, cx (i + 1) - (1 - s) * (cx (i + 1) - cx i) = sx cx i s := fun cx => by unfold sx; grind
  have a3 : ∀ cx : Nat → Rat, cx (i + 1) - (cx (i + 1) - cx i) = cx i := fun cx => by grind
  have a4 : ∀ cx : Nat → Rat, cx (i + 1) + t * (cx (i + 2) - cx (i + 1)) = sx cx (i + 1) t := fun cx => rfl
  simp only [a1, a2, a3, a4] at h
  unfold pos
  show _ = (posd (cx (i + 1) - cx i) (cy (i + 1) - cy i) ^^ posd (cx (i + 2) - cx (i + 1)) (cy (i + 2) - cy (i + 1)))
  rw [← h]
  simp only [Bool.xor_false, Bool.false_xor]
theorem sx_mod (P : Pol n cx cy) (k : Nat) (s : Rat) : sx cx (k % n) s = sx cx k s ∧ sx cy (k % n) s = sx cy k s := by
  unfold sx
  rw [(per_mod P k).1, (per_mod P k).2, (per_mod1 P k).1, (per_mod1 P k).2]
  exact ⟨rfl, rfl⟩
/-- two points of line i against line j, j not the next (s or t at its end), not the one before -/
theorem dis_any (P : Pol n cx cy) {i j : Nat} {s t : Rat} (hi : i < n) (hj : j < n) (hs : 0 ≤ s) (hs1 : s ≤ 1) (ht : 0 ≤ t) (ht1 : t ≤ 1) (hst : s ≠ t)
    (hn : j = (i + 1) % n → s < 1 ∧ t < 1) (hp : i = (j + 1) % n → 0 < s ∧ 0 < t) : dfc cx cy (sx cx i s) (sx cy i s) (sx cx i t) (sx cy i t) j = false := by
  by_cases e1 : j = i
  · subst e1
    exact dfc_of dis_self
  · by_cases e2 : j = (i + 1) % n
    · obtain ⟨k1, k2⟩ := hn e2
      rw [e2, dfc_mod P]
      exact dfc_of (dis_next P k1 k2)
    · by_cases e3 : i = (j + 1) % n
      · obtain ⟨k1, k2⟩ := hp e3
        rw [e3, (sx_mod P _ _).1, (sx_mod P _ _).2, (sx_mod P _ _).1, (sx_mod P _ _).2]
        exact dfc_of (dis_prev P k1 k2)
      · exact dfc_of (dis_sub hs hs1 ht ht1 hst (P.apart i j hi hj (fun z => e1 z.symm) (fun z => e2 z.symm) fun z => e3 z.symm))
theorem xor_zero {a b : Bool} (h : (a ^^ b) = false) : a = b := by
  cases a <;> cases b <;> simp_all
theorem par_line (P : Pol n cx cy) {i : Nat} {s t : Rat} (hi : i < n) (hs : 0 < s) (hs1 : s < 1) (ht : 0 < t) (ht1 : t < 1) : par n cx cy (sx cx i s) (sx cy i s) = par n cx cy (sx cx i t) (sx cy i t) := by
  by_cases e : s = t
  · rw [e]
  · refine xor_zero ?_
    rw [par_xor P]
    exact px_false fun j hj => dis_any P hi hj (by grind) (by grind) (by grind) (by grind) e (fun _ => ⟨hs1, ht1⟩) fun _ => ⟨hs, ht⟩
/-- the right hand's parity, by line i at s -/
def rho (n : Nat) (cx cy : Nat → Rat) (i : Nat) : Bool := par n cx cy (sx cx i (1 / 2)) (sx cy i (1 / 2)) ^^ !pos cx cy i
theorem next_ne {n i : Nat} (h3 : 3 ≤ n) (hi : i < n) : (i + 1) % n ≠ i ∧ ((i + 1) % n + 1) % n ≠ i := by
  by_cases e : i + 1 = n
  · have e1 : (i + 1) % n = 0 := by rw [e]; exact Nat.mod_self n
    rw [e1]
    have e2 : (0 + 1) % n = 1 := Nat.mod_eq_of_lt (by omega)
    rw [e2]
    omega
  · have e1 : (i + 1) % n = i + 1 := Nat.mod_eq_of_lt (by omega)
    rw [e1]
    by_cases e2 : i + 1 + 1 = n
    · have e3 : (i + 1 + 1) % n = 0 := by rw [e2]; exact Nat.mod_self n
      rw [e3]
      omega
    · have e3 : (i + 1 + 1) % n = i + 1 + 1 := Nat.mod_eq_of_lt (by omega)
      rw [e3]
      omega
theorem mod_inj {n i j : Nat} (hi : i < n) (hj : j < n) (h : (i + 1) % n = (j + 1) % n) : i = j := by
  by_cases e : i + 1 = n
  · have e1 : (i + 1) % n = 0 := by rw [e]; exact Nat.mod_self n
    by_cases f : j + 1 = n
    · omega
    · have e2 : (j + 1) % n = j + 1 := Nat.mod_eq_of_lt (by omega)
      omega
  · have e1 : (i + 1) % n = i + 1 := Nat.mod_eq_of_lt (by omega)
    by_cases f : j + 1 = n
    · have e2 : (j + 1) % n = 0 := by rw [f]; exact Nat.mod_self n
      omega
    · have e2 : (j + 1) % n = j + 1 := Nat.mod_eq_of_lt (by omega)
      omega
theorem rho_next (P : Pol n cx cy) {i : Nat} (hi : i + 1 < n) : rho n cx cy i = rho n cx cy (i + 1) := by
  have hm : (i + 1) % n = i + 1 := Nat.mod_eq_of_lt hi
  have h3 := P.n3
  obtain ⟨n1, n2⟩ := next_ne h3 (show i < n by omega)
  rw [hm] at n1 n2
  have a : (par n cx cy (sx cx i (1 / 2)) (sx cy i (1 / 2)) ^^ par n cx cy (sx cx i 1) (sx cy i 1)) = dfc cx cy (sx cx i (1 / 2)) (sx cy i (1 / 2)) (sx cx i 1) (sx cy i 1) (i + 1) := by
    rw [par_xor P]
    refine px_one hi fun j hj ne => dis_any P (by omega) hj (by grind) (by grind) (by grind) (by grind) (by grind) (fun z => ?_) fun _ => ⟨by grind, by grind⟩
    rw [hm] at z
    exact absurd z ne
  have b : (par n cx cy (sx cx (i + 1) 0) (sx cy (i + 1) 0) ^^ par n cx cy (sx cx (i + 1) (1 / 2)) (sx cy (i + 1) (1 / 2))) = dfc cx cy (sx cx (i + 1) 0) (sx cy (i + 1) 0) (sx cx (i + 1) (1 / 2)) (sx cy (i + 1) (1 / 2)) i := by
    rw [par_xor P]
    refine px_one (by omega) fun j hj ne => dis_any P hi hj (by grind) (by grind) (by grind) (by grind) (by grind) (fun _ => ⟨by grind, by grind⟩) fun z => ?_
    rw [← hm] at z
    exact absurd (mod_inj hj (by omega) z.symm) ne
  have c := corner P (i := i) (s := 1 / 2) (t := 1 / 2) (by grind) (by grind)
  have e1 : ∀ cx : Nat → Rat, sx cx i 1 = sx cx (i + 1) 0 := fun cx => by unfold sx; grind
  rw [e1, e1] at a c
  rw [← a, ← b] at c
  unfold rho
  generalize par n cx cy (sx cx i (1 / 2)) (sx cy i (1 / 2)) = u at *
  generalize par n cx cy (sx cx (i + 1) 0) (sx cy (i + 1) 0) = v at *
  generalize par n cx cy (sx cx (i + 1) (1 / 2)) (sx cy (i + 1) (1 / 2)) = w at *
  generalize pos cx cy i = p at *
  generalize pos cx cy (i + 1) = q at *
  revert c
  cases u <;> cases v <;> cases w <;> cases p <;> cases q <;> simp
theorem rho_all (P : Pol n cx cy) : ∀ {i : Nat}, i < n → rho n cx cy i = rho n cx cy 0
  | 0, _ => rfl
  | i + 1, h => (rho_next P h).symm.trans (rho_all P (by omega))
/-- the parity on a line, between its corners -/
theorem par_on (P : Pol n cx cy) {i : Nat} {s : Rat} (hi : i < n) (hs : 0 < s) (hs1 : s < 1) : par n cx cy (sx cx i s) (sx cy i s) = (rho n cx cy 0 ^^ !pos cx cy i) := by
  rw [par_line P hi hs hs1 (t := 1 / 2) (by grind) (by grind), ← rho_all P hi]
  unfold rho
  generalize par n cx cy (sx cx i (1 / 2)) (sx cy i (1 / 2)) = u
  generalize pos cx cy i = p
  cases u <;> cases p <;> rfl
end
end Rt
namespace Rt
open Eh
section
variable {n : Nat} {cx cy : Nat → Rat}
/-- from a line's inner point to its right -/
theorem dfc_right {i : Nat} {s mx my : Rat} (hs : 0 < s) (hs1 : s < 1) (hm : lf (cx i) (cy i) (cx (i + 1)) (cy (i + 1)) mx my < 0) : dfc cx cy (sx cx i s) (sx cy i s) mx my i = !pos cx cy i := by
  have e0 : lf (cx i) (cy i) (cx (i + 1)) (cy (i + 1)) (sx cx i s) (sx cy i s) = 0 := by unfold lf sx; grind
  have e1 : lf (sx cx i s) (sx cy i s) mx my (cx i) (cy i) = s * lf (cx i) (cy i) (cx (i + 1)) (cy (i + 1)) mx my := by unfold lf sx; grind
  have e2 : lf (sx cx i s) (sx cy i s) mx my (cx (i + 1)) (cy (i + 1)) = -((1 - s) * lf (cx i) (cy i) (cx (i + 1)) (cy (i + 1)) mx my) := by unfold lf sx; grind
  have k1 : s * lf (cx i) (cy i) (cx (i + 1)) (cy (i + 1)) mx my < 0 := by rw [sg2 hs]; exact hm
  have k2 : 0 < -((1 - s) * lf (cx i) (cy i) (cx (i + 1)) (cy (i + 1)) mx my) := by
    have := sg2 (S := 1 - s) (X := lf (cx i) (cy i) (cx (i + 1)) (cy (i + 1)) mx my) (by grind)
    have h2 : (1 - s) * lf (cx i) (cy i) (cx (i + 1)) (cy (i + 1)) mx my < 0 := by rw [this]; exact hm
    grind
  have hz : cy i = cy (i + 1) → (cx (i + 1) - cx i) * (my - cy i) < 0 := fun z => by unfold lf at hm; grind
  have hy : sx cy i s = cy i + s * (cy (i + 1) - cy i) := rfl
  have s1 := sg1 (X := cy (i + 1) - cy i) hs
  have s2 := sg2 (X := cy (i + 1) - cy i) hs
  have s3 := sg1 (S := 1 - s) (X := cy (i + 1) - cy i) (by grind)
  have s4 := sg2 (S := 1 - s) (X := cy (i + 1) - cy i) (by grind)
  have z1 : ∀ a b : Rat, a * b < 0 → (a < 0 ↔ 0 < b) := fun a b h => by
    constructor
    · intro ha
      by_cases z : 0 < b
      · exact z
      · have := mnn (x := -a) (y := -b) (by grind) (by grind)
        grind
    · intro hb
      by_cases z : a < 0
      · exact z
      · have := mnn (x := a) (y := b) (by grind) (by grind)
        grind
  have hz2 : cy i = cy (i + 1) → (cx (i + 1) - cx i < 0 ↔ 0 < my - cy i) := fun z => z1 _ _ (hz z)
  have hz3 : cy i = cy (i + 1) → my ≠ cy i := fun z y => by
    have := hz z
    rw [y] at this
    grind
  unfold dfc cri crs inn pos posd
  rw [e0, e1, e2]
  generalize lf (cx i) (cy i) (cx (i + 1)) (cy (i + 1)) mx my = l at *
  generalize s * l = ls at *
  generalize -((1 - s) * l) = lt at *
  have t1 : ((1 - s) * (cy (i + 1) - cy i)) = cy (i + 1) - sx cy i s := by rw [hy]; grind
  have t2 : (s * (cy (i + 1) - cy i)) = sx cy i s - cy i := by rw [hy]; grind
  rw [t1] at s3 s4
  rw [t2] at s1 s2
  clear e0 e1 e2 hy t1 t2 hz z1
  generalize sx cy i s = py at *
  generalize cy i = u at *
  generalize cy (i + 1) = v at *
  generalize cx (i + 1) - cx i = dx at *
  by_cases h1 : 0 < v - u
  · have a1 : u < py := by grind
    have a2 : py < v := by grind
    by_cases h2 : u ≤ my <;> by_cases h3 : my < v <;> grind
  · by_cases h4 : v - u < 0
    · have a1 : v < py := by grind
      have a2 : py < u := by grind
      by_cases h2 : v ≤ my <;> by_cases h3 : my < u <;> grind
    · have a1 : u = v := by grind
      have a2 : py = u := by grind
      have b1 := hz2 a1
      have b2 := hz3 a1
      by_cases h2 : u < my <;> grind
/-- L1 -/
theorem par_right (P : Pol n cx cy) {i : Nat} {s mx my : Rat} (hi : i < n) (hs : 0 < s) (hs1 : s < 1) (hm : lf (cx i) (cy i) (cx (i + 1)) (cy (i + 1)) mx my < 0)
    (hd : ∀ j, j < n → j ≠ i → DisL cx cy (sx cx i s) (sx cy i s) mx my j) : par n cx cy mx my = rho n cx cy 0 := by
  have a : (par n cx cy (sx cx i s) (sx cy i s) ^^ par n cx cy mx my) = !pos cx cy i := by
    rw [par_xor P, px_one hi fun j hj ne => dfc_of (hd j hj ne)]
    exact dfc_right hs hs1 hm
  rw [par_on P hi hs hs1] at a
  revert a
  generalize rho n cx cy 0 = r
  generalize pos cx cy i = p
  generalize par n cx cy mx my = m
  cases r <;> cases p <;> cases m <;> simp
end
end Rt
namespace Rt
open Eh
/-! ### sums over the first n -/
def sm (f : Nat → Int) : Nat → Int
  | 0 => 0
  | n + 1 => sm f n + f n
theorem sm_congr {f g : Nat → Int} {n : Nat} (h : ∀ i, i < n → f i = g i) : sm f n = sm g n := by
  induction n with
  | zero => rfl
  | succ n ih =>
    unfold sm
    rw [ih fun i hi => h i (by omega), h n (by omega)]
theorem sm_add (f g : Nat → Int) (n : Nat) : sm (fun i => f i + g i) n = sm f n + sm g n := by
  induction n with
  | zero => rfl
  | succ n ih =>
    unfold sm
    rw [ih]
    omega
theorem sm_mul (c : Int) (f : Nat → Int) (n : Nat) : sm (fun i => c * f i) n = c * sm f n := by
  induction n with
  | zero => unfold sm; omega
  | succ n ih =>
    unfold sm
    rw [ih, Int.mul_add]
theorem sm_zero {f : Nat → Int} {n : Nat} (h : ∀ i, i < n → f i = 0) : sm f n = 0 := by
  induction n with
  | zero => rfl
  | succ n ih =>
    unfold sm
    rw [ih fun i hi => h i (by omega), h n (by omega)]
    rfl
theorem sm_one {f : Nat → Int} {n j : Nat} (hj : j < n) (h : ∀ i, i < n → i ≠ j → f i = 0) : sm f n = f j := by
  induction n with
  | zero => omega
  | succ n ih =>
    unfold sm
    by_cases e : j = n
    · subst e
      rw [sm_zero fun i hi => h i (by omega) (by omega)]
      omega
    · rw [ih (by omega) fun i hi hn => h i (by omega) hn, h n (by omega) (by omega)]
      omega
theorem sm_swap (f : Nat → Nat → Int) (n m : Nat) : sm (fun i => sm (fun k => f i k) m) n = sm (fun k => sm (fun i => f i k) n) m := by
  induction n with
  | zero =>
    show (0 : Int) = _
    rw [sm_zero]
    intro i hi
    rfl
  | succ n ih =>
    show sm (fun i => sm (fun k => f i k) m) n + sm (fun k => f n k) m = _
    rw [ih, ← sm_add]
    rfl
theorem sm_le {f : Nat → Int} {n : Nat} (h : ∀ i, i < n → f i ≤ 0) : sm f n ≤ 0 := by
  induction n with
  | zero => exact Int.le_refl _
  | succ n ih =>
    unfold sm
    have := ih fun i hi => h i (by omega)
    have := h n (by omega)
    omega
theorem sm_tele (g : Nat → Int) (n : Nat) : sm (fun i => g (i + 1) - g i) n = g n - g 0 := by
  induction n with
  | zero => unfold sm; omega
  | succ n ih =>
    unfold sm
    rw [ih]
    omega
/-! ### signs that alternate downwards -/
def cnt (b : Nat → Bool) : Nat → Nat
  | 0 => 0
  | n + 1 => cnt b n + (if b n = true then 1 else 0)
theorem cnt_lt {b c : Nat → Bool} {n j : Nat} (hj : j < n) (hb : b j = true) (hc : c j = false) (h : ∀ i, i < n → c i = true → b i = true) : cnt c n < cnt b n := by
  have le : ∀ m, m ≤ n → cnt c m ≤ cnt b m ∧ (j < m → cnt c m < cnt b m) := by
    intro m
    induction m with
    | zero => intro _; exact ⟨Nat.le_refl _, fun h => by omega⟩
    | succ m ih =>
      intro hm
      obtain ⟨h1, h2⟩ := ih (by omega)
      have h3 := h m (by omega)
      unfold cnt
      by_cases e : j = m
      · subst e
        rw [hb, hc]
        simp
        omega
      · cases hcm : c m with
        | true =>
          rw [h3 hcm]
          exact ⟨by omega, fun z => by have := h2 (by omega); omega⟩
        | false =>
          cases b m with
          | true => simp; exact ⟨by omega, fun z => by have := h2 (by omega); omega⟩
          | false => simp; exact ⟨by omega, fun z => by have := h2 (by omega); omega⟩
  exact (le n (Nat.le_refl _)).2 hj
theorem exmin (x : Nat → Int) (q : Nat → Bool) : ∀ n, (∃ i, i < n ∧ q i = true) → ∃ i, i < n ∧ q i = true ∧ ∀ j, j < n → q j = true → x i ≤ x j
  | 0, ⟨_, h, _⟩ => absurd h (by omega)
  | n + 1, hh => by
    by_cases e : ∃ i, i < n ∧ q i = true
    · obtain ⟨i, hi, hq, hm⟩ := exmin x q n e
      by_cases z : q n = true ∧ x n < x i
      · refine ⟨n, by omega, z.1, fun j hj hqj => ?_⟩
        by_cases ej : j = n
        · subst ej; exact Int.le_refl _
        · have := hm j (by omega) hqj
          omega
      · refine ⟨i, by omega, hq, fun j hj hqj => ?_⟩
        by_cases ej : j = n
        · subst ej
          by_cases y : x j < x i
          · exact absurd ⟨hqj, y⟩ z
          · omega
        · exact hm j (by omega) hqj
    · obtain ⟨i, hi, hq⟩ := hh
      have ei : i = n := by
        by_cases y : i < n
        · exact absurd ⟨i, y, hq⟩ e
        · omega
      subst ei
      refine ⟨i, by omega, hq, fun j hj hqj => ?_⟩
      by_cases ej : j = i
      · subst ej; exact Int.le_refl _
      · exact absurd ⟨j, by omega, hqj⟩ e
section
variable {n : Nat} {x s : Nat → Int} {sp : Nat → Bool}
/-- the terms above t -/
def ab (sp : Nat → Bool) (x : Nat → Int) (t : Int) (i : Nat) : Bool := sp i && decide (t < x i)
theorem alt (hd : ∀ i j, i < n → j < n → i ≠ j → sp i = true → sp j = true → x i ≠ x j) (hs : ∀ i, i < n → sp i = true → s i = if px (ab sp x (x i)) n = true then 1 else -1) :
    ∀ (c : Nat) (t : Int), cnt (ab sp x t) n = c → sm (fun i => if ab sp x t i = true then s i else 0) n = (if px (ab sp x t) n = true then -1 else 0) ∧ sm (fun i => if ab sp x t i = true then s i * (x i - t) else 0) n ≤ 0 := by
  intro c
  induction c using Nat.strongRecOn with
  | ind c ih =>
    intro t hc
    by_cases e : ∃ i, i < n ∧ ab sp x t i = true
    · obtain ⟨i, hi, hq, hm⟩ := exmin x (ab sp x t) n e
      have hq' : sp i = true ∧ t < x i := by simpa [ab] using hq
      have split : ∀ j, j < n → ab sp x t j = (decide (j = i) || ab sp x (x i) j) := by
        intro j hj
        by_cases ej : j = i
        · subst ej
          simp [hq]
        · simp only [ej, decide_false, Bool.false_or]
          cases h1 : ab sp x t j with
          | true =>
            have h2 := hm j hj h1
            have h3 : sp j = true ∧ t < x j := by simpa [ab] using h1
            have h4 := hd j i hj hi ej h3.1 hq'.1
            have h5 : x i < x j := by omega
            simp [ab, h3.1, h5]
          | false =>
            cases h2 : ab sp x (x i) j with
            | false => rfl
            | true =>
              have h3 : sp j = true ∧ x i < x j := by simpa [ab] using h2
              have h4 : ab sp x t j = true := by
                have : t < x j := by omega
                simp [ab, h3.1, this]
              rw [h1] at h4
              exact h4
      have self : ab sp x (x i) i = false := by simp [ab]
      have dis : ∀ j, j < n → ab sp x t j = (decide (j = i) ^^ ab sp x (x i) j) := by
        intro j hj
        rw [split j hj]
        by_cases ej : j = i
        · subst ej
          rw [self]
          simp
        · simp [ej]
      have hlt : cnt (ab sp x (x i)) n < c := by
        rw [← hc]
        refine cnt_lt hi hq self fun j hj h => ?_
        rw [split j hj, h]
        simp
      obtain ⟨w, f⟩ := ih _ hlt (x i) rfl
      have hpx : px (ab sp x t) n = !px (ab sp x (x i)) n := by
        rw [px_congr dis, px_xor, px_one (f := fun j => decide (j = i)) hi fun j _ ne => by simp [ne]]
        simp
      have hsum : ∀ g : Nat → Int, sm (fun j => if ab sp x t j = true then g j else 0) n = g i + sm (fun j => if ab sp x (x i) j = true then g j else 0) n := by
        intro g
        have h1 : ∀ j, j < n → (if ab sp x t j = true then g j else 0) = (if j = i then g j else 0) + (if ab sp x (x i) j = true then g j else 0) := by
          intro j hj
          rw [split j hj]
          by_cases ej : j = i
          · subst ej
            rw [self]
            simp
          · simp [ej]
        rw [sm_congr h1, sm_add, sm_one (f := fun j => if j = i then g j else 0) hi fun j _ ne => by simp [ne]]
        simp
      have hsi := hs i hi hq'.1
      have W : sm (fun j => if ab sp x t j = true then s j else 0) n = (if px (ab sp x t) n = true then -1 else 0) := by
        rw [hsum, w, hpx, hsi]
        cases px (ab sp x (x i)) n <;> simp
      refine ⟨W, ?_⟩
      have h2 : ∀ j, j < n → (if ab sp x t j = true then s j * (x j - t) else 0) = (if ab sp x t j = true then s j * (x j - x i) else 0) + (x i - t) * (if ab sp x t j = true then s j else 0) := by
        intro j hj
        by_cases z : ab sp x t j = true
        · simp only [z, if_true]
          grind
        · simp [z]
      rw [sm_congr h2, sm_add, sm_mul, W, hsum fun j => s j * (x j - x i)]
      have h3 : s i * (x i - x i) = 0 := by rw [Int.sub_self, Int.mul_zero]
      rw [h3]
      have h4 : (x i - t) * (if px (ab sp x t) n = true then -1 else 0) ≤ 0 := by
        split
        · omega
        · simp
      omega
    · have z : ∀ i, i < n → ab sp x t i = false := fun i hi => by
        cases h : ab sp x t i with
        | false => rfl
        | true => exact absurd ⟨i, hi, h⟩ e
      refine ⟨?_, ?_⟩
      · rw [px_false z, sm_zero fun i hi => by rw [z i hi]; rfl]
        rfl
      · rw [sm_zero fun i hi => by rw [z i hi]; rfl]
        exact Int.le_refl _
/-- values from 0 on, distinct, their signs minus, plus, minus .. from the greatest down: the sum isn't above 0 -/
theorem alt_sum (hd : ∀ i j, i < n → j < n → i ≠ j → sp i = true → sp j = true → x i ≠ x j) (hs : ∀ i, i < n → sp i = true → s i = if px (ab sp x (x i)) n = true then 1 else -1) (h0 : ∀ i, i < n → sp i = true → 0 ≤ x i) :
    sm (fun i => if sp i = true then s i * x i else 0) n ≤ 0 := by
  have h := (alt hd hs _ 0 rfl).2
  refine Int.le_trans (Int.le_of_eq (sm_congr fun i hi => ?_)) h
  by_cases e : sp i = true
  · have := h0 i hi e
    by_cases z : 0 < x i
    · simp [ab, e, z]
    · have e0 : x i = 0 := by omega
      simp [ab, e, e0]
  · simp [ab, e]
end
end Rt
namespace Rt
open Eh
/-! ### the area by scan lines -/
/-- the value at height k + 1/2 (twice) of a line through (a, y) with slope e -/
def vl (a y e k : Int) : Int := 2 * a + e * (2 * k + 1 - 2 * y)
theorem scan (a e : Int) (y z : Nat) (hz : y ≤ z) : ∀ N : Nat, sm (fun k => if y ≤ k ∧ k < z then vl a y e k else 0) N =
    if N ≤ y then 0 else if N ≤ z then ((N : Int) - y) * (2 * a + e * ((N : Int) - y)) else ((z : Int) - y) * (2 * a + e * ((z : Int) - y))
  | 0 => by simp [sm]
  | N + 1 => by
    unfold sm
    rw [scan a e y z hz N]
    by_cases h1 : N < y
    · have h2 : ¬ (y ≤ N ∧ N < z) := by omega
      have h3 : N ≤ y := by omega
      have h4 : N + 1 ≤ y := by omega
      simp only [h2, h3, h4, if_true, if_false]
      rfl
    · have h4 : ¬ N + 1 ≤ y := by omega
      by_cases h5 : N < z
      · have h2 : y ≤ N ∧ N < z := by omega
        have h6 : N ≤ z := by omega
        have h7 : N + 1 ≤ z := by omega
        simp only [h2, h4, h6, h7, if_true, if_false]
        by_cases h3 : N ≤ y
        · have h8 : N = y := by omega
          subst h8
          simp only [Nat.le_refl, if_true]
          unfold vl
          simp
          grind
        · simp only [h3, if_false]
          unfold vl
          simp
          grind
      · have h2 : ¬ (y ≤ N ∧ N < z) := by omega
        have h7 : ¬ N + 1 ≤ z := by omega
        simp only [h2, h4, h7, if_false]
        by_cases h3 : N ≤ y
        · have h8 : N = y := by omega
          have h9 : z = y := by omega
          subst h8
          subst h9
          simp
        · simp only [h3, if_false]
          by_cases h6 : N ≤ z
          · have h8 : N = z := by omega
            subst h8
            simp
          · simp [h6]
structure Grid (n : Nat) (X Y : Nat → Int) : Prop where
  x0 : ∀ i, 0 ≤ X i
  y0 : ∀ i, 0 ≤ Y i
  y1 : ∀ i, Y i ≤ 4095
  dir : ∀ i, X (i + 1) = X i ∨ Y (i + 1) = Y i ∨ X (i + 1) - X i = Y (i + 1) - Y i ∨ X (i + 1) - X i = -(Y (i + 1) - Y i)
section
variable {n : Nat} {X Y : Nat → Int}
def slp (X Y : Nat → Int) (i : Nat) : Int := if X (i + 1) = X i then 0 else if X (i + 1) - X i = Y (i + 1) - Y i then 1 else -1
def spn (Y : Nat → Int) (k : Int) (i : Nat) : Bool := decide (Y i ≤ k ∧ k < Y (i + 1)) || decide (Y (i + 1) ≤ k ∧ k < Y i)
def sgn (Y : Nat → Int) (k : Int) (i : Nat) : Int := if Y i ≤ k ∧ k < Y (i + 1) then 1 else -1
def val (X Y : Nat → Int) (k : Int) (i : Nat) : Int := vl (X i) (Y i) (slp X Y i) k
theorem slp_ok (G : Grid n X Y) (i : Nat) (h : Y (i + 1) ≠ Y i) : X (i + 1) - X i = slp X Y i * (Y (i + 1) - Y i) := by
  unfold slp
  have := G.dir i
  by_cases h1 : X (i + 1) = X i
  · simp [h1]
  · by_cases h2 : X (i + 1) - X i = Y (i + 1) - Y i
    · simp [h1, h2]
    · simp [h1, h2]
      omega
theorem edge_sum (G : Grid n X Y) (i : Nat) : sm (fun k => if spn Y k i = true then sgn Y k i * val X Y k i else 0) 4096 = (X i + X (i + 1)) * (Y (i + 1) - Y i) := by
  have a0 := G.y0 i
  have b0 := G.y0 (i + 1)
  have a1 := G.y1 i
  have b1 := G.y1 (i + 1)
  by_cases e : Y (i + 1) = Y i
  · rw [e]
    rw [sm_zero]
    · simp
    · intro k hk
      have : spn Y k i = false := by
        unfold spn
        rw [e]
        simp
      rw [this]
      rfl
  · have hs := slp_ok G i e
    obtain ⟨y, hy⟩ := Int.eq_ofNat_of_zero_le a0
    obtain ⟨z, hz⟩ := Int.eq_ofNat_of_zero_le b0
    by_cases up : Y i < Y (i + 1)
    · have h := scan (X i) (slp X Y i) y z (by omega) 4096
      have h1 : ¬ 4096 ≤ y := by omega
      have h2 : ¬ 4096 ≤ z := by omega
      simp only [h1, h2, if_false] at h
      have h3 : ∀ k : Nat, k < 4096 → (if spn Y k i = true then sgn Y k i * val X Y k i else 0) = (if y ≤ k ∧ k < z then vl (X i) y (slp X Y i) k else 0) := by
        intro k hk
        by_cases c : y ≤ k ∧ k < z
        · have c1 : Y i ≤ (k : Int) ∧ (k : Int) < Y (i + 1) := by omega
          simp only [spn, sgn, c1, c, val]
          simp [hy]
        · have c1 : ¬ (Y i ≤ (k : Int) ∧ (k : Int) < Y (i + 1)) := by omega
          have c2 : ¬ (Y (i + 1) ≤ (k : Int) ∧ (k : Int) < Y i) := by omega
          simp only [spn, c1, c2, c]
          simp
      rw [sm_congr h3, h, hy, hz]
      rw [hy, hz] at hs
      grind
    · have dn : Y (i + 1) < Y i := by omega
      have h := scan (X (i + 1)) (slp X Y i) z y (by omega) 4096
      have h1 : ¬ 4096 ≤ y := by omega
      have h2 : ¬ 4096 ≤ z := by omega
      simp only [h1, h2, if_false] at h
      have h3 : ∀ k : Nat, k < 4096 → (if spn Y k i = true then sgn Y k i * val X Y k i else 0) = -1 * (if z ≤ k ∧ k < y then vl (X (i + 1)) z (slp X Y i) k else 0) := by
        intro k hk
        by_cases c : z ≤ k ∧ k < y
        · have c1 : Y (i + 1) ≤ (k : Int) ∧ (k : Int) < Y i := by omega
          have c2 : ¬ (Y i ≤ (k : Int) ∧ (k : Int) < Y (i + 1)) := by omega
          simp only [spn, sgn, c1, c2, c, val]
          simp [vl]
          rw [hy, hz] at hs
          rw [hy]
          grind
        · have c1 : ¬ (Y i ≤ (k : Int) ∧ (k : Int) < Y (i + 1)) := by omega
          have c2 : ¬ (Y (i + 1) ≤ (k : Int) ∧ (k : Int) < Y i) := by omega
          simp only [spn, c1, c2, c]
          simp
      rw [sm_congr h3, sm_mul, h, hy, hz]
      rw [hy, hz] at hs
      grind
/-- twice the area -/
theorem area_scan (G : Grid n X Y) (hX : X n = X 0) (hY : Y n = Y 0) : sm (fun i => X i * Y (i + 1) - X (i + 1) * Y i) n = sm (fun k => sm (fun i => if spn Y k i = true then sgn Y k i * val X Y k i else 0) n) 4096 := by
  rw [← sm_swap (fun i k => if spn Y k i = true then sgn Y k i * val X Y k i else 0)]
  have h : ∀ i, i < n → X i * Y (i + 1) - X (i + 1) * Y i = sm (fun k => if spn Y k i = true then sgn Y k i * val X Y k i else 0) 4096 + (-1) * (X (i + 1) * Y (i + 1) - X i * Y i) := by
    intro i hi
    rw [edge_sum G i]
    grind
  rw [sm_congr h, sm_add, sm_mul, sm_tele fun i => X i * Y i, hX, hY]
  omega
end
end Rt
namespace Rt
open Eh
/-- lines that are no neighbours have no point in common -/
def NoCom (n : Nat) (cx cy : Nat → Rat) : Prop := ∀ i j, i < n → j < n → i ≠ j → (i + 1) % n ≠ j → (j + 1) % n ≠ i → ∀ s t : Rat, 0 ≤ s → s ≤ 1 → 0 ≤ t → t ≤ 1 → ¬ (sx cx i s = sx cx j t ∧ sx cy i s = sx cy j t)
theorem apart_pts {n : Nat} {cx cy : Nat → Rat} (P : Pol n cx cy) (Q : NoCom n cx cy) {i j : Nat} {s t : Rat} (hi : i < n) (hj : j < n) (ne : i ≠ j) (hs : 0 < s) (hs1 : s < 1) (ht : 0 ≤ t) (ht1 : t ≤ 1) : ¬ (sx cx i s = sx cx j t ∧ sx cy i s = sx cy j t) := by
  rintro ⟨e1, e2⟩
  by_cases n1 : (i + 1) % n = j
  · subst n1
    rw [(sx_mod P _ _).1] at e1
    rw [(sx_mod P _ _).2] at e2
    have h := P.turn i
    have k : (1 - s) * ((cx (i + 1) - cx i) * (cy (i + 2) - cy (i + 1)) - (cy (i + 1) - cy i) * (cx (i + 2) - cx (i + 1))) = 0 := by
      have a : lf (cx (i + 1)) (cy (i + 1)) (cx (i + 2)) (cy (i + 2)) (sx cx (i + 1) t) (sx cy (i + 1) t) = 0 := by
        show lf (cx (i + 1)) (cy (i + 1)) (cx (i + 1 + 1)) (cy (i + 1 + 1)) (sx cx (i + 1) t) (sx cy (i + 1) t) = 0
        unfold lf sx; grind
      rw [← e1, ← e2] at a
      rw [← a]
      unfold lf sx
      grind
    rcases Rat.mul_eq_zero.mp k with z | z
    · grind
    · exact h z
  · by_cases n2 : (j + 1) % n = i
    · subst n2
      rw [(sx_mod P _ _).1] at e1
      rw [(sx_mod P _ _).2] at e2
      have h := P.turn j
      have k : s * ((cx (j + 1) - cx j) * (cy (j + 2) - cy (j + 1)) - (cy (j + 1) - cy j) * (cx (j + 2) - cx (j + 1))) = 0 := by
        have a : lf (cx j) (cy j) (cx (j + 1)) (cy (j + 1)) (sx cx j t) (sx cy j t) = 0 := by unfold lf sx; grind
        rw [← e1, ← e2] at a
        rw [← a]
        unfold lf sx
        grind
      rcases Rat.mul_eq_zero.mp k with z | z
      · grind
      · exact h z
    · exact Q i j hi hj ne n1 n2 s t (by grind) (by grind) ht ht1 ⟨e1, e2⟩
theorem c_le (a b : Int) : ((a : Rat) ≤ (b : Rat)) = (a ≤ b) := propext Rat.intCast_le_intCast
theorem c_lt (a b : Int) : ((a : Rat) < (b : Rat)) = (a < b) := propext Rat.intCast_lt_intCast
/-- halves against whole numbers -/
theorem half_ge (a k : Int) : ((a : Rat) ≤ (k : Rat) + 1 / 2) = (a ≤ k) := by
  by_cases h : a ≤ k
  · have h1 : (a : Rat) ≤ (k : Rat) := Rat.intCast_le_intCast.mpr h
    simp only [h, eq_iff_iff, iff_true]
    grind
  · have h1 : ((k + 1 : Int) : Rat) ≤ (a : Rat) := Rat.intCast_le_intCast.mpr (by omega)
    rw [Rat.intCast_add] at h1
    have h2 : ((1 : Int) : Rat) = 1 := rfl
    rw [h2] at h1
    simp only [h, eq_iff_iff, iff_false]
    grind
theorem half_lt (a k : Int) : ((k : Rat) + 1 / 2 < (a : Rat)) = (k < a) := by
  have h := half_ge a k
  have e1 : ((k : Rat) + 1 / 2 < (a : Rat)) = ¬ ((a : Rat) ≤ (k : Rat) + 1 / 2) := by rw [Rat.not_le]
  rw [e1, h]
  apply propext
  omega
section
variable {n : Nat} {X Y : Nat → Int}
abbrev rx (X : Nat → Int) : Nat → Rat := fun i => (X i : Rat)
/-- the place of height k + 1/2 on line i -/
def plc (Y : Nat → Int) (k : Int) (i : Nat) : Rat := ((k : Rat) + 1 / 2 - (Y i : Rat)) / ((Y (i + 1) : Rat) - (Y i : Rat))
theorem val_cast (X Y : Nat → Int) (k : Int) (i : Nat) : ((val X Y k i : Int) : Rat) = 2 * (X i : Rat) + (slp X Y i : Rat) * (2 * (k : Rat) + 1 - 2 * (Y i : Rat)) := by
  unfold val vl
  rw [Rat.intCast_add, Rat.intCast_mul, Rat.intCast_mul, Rat.intCast_sub, Rat.intCast_add, Rat.intCast_mul, Rat.intCast_mul]
  rfl
theorem slp_cast (G : Grid n X Y) (i : Nat) (h : Y (i + 1) ≠ Y i) : (X (i + 1) : Rat) - (X i : Rat) = (slp X Y i : Rat) * ((Y (i + 1) : Rat) - (Y i : Rat)) := by
  have := congrArg (fun z : Int => (z : Rat)) (slp_ok G i h)
  simp only [Rat.intCast_sub, Rat.intCast_mul] at this
  exact this
theorem spn_ne {k : Int} {i : Nat} (h : spn Y k i = true) : Y (i + 1) ≠ Y i := by
  simp [spn] at h
  omega
theorem dy_ne {i : Nat} (h : Y (i + 1) ≠ Y i) : (Y (i + 1) : Rat) - (Y i : Rat) ≠ 0 := fun z => by
  have : (Y (i + 1) : Rat) = (Y i : Rat) := by grind
  exact h (Rat.intCast_inj.mp this)
theorem plc_y {k : Int} {i : Nat} (h : spn Y k i = true) : sx (rx Y) i (plc Y k i) = (k : Rat) + 1 / 2 := by
  have d := dy_ne (spn_ne h)
  unfold sx plc
  show (Y i : Rat) + ((k : Rat) + 1 / 2 - (Y i : Rat)) / ((Y (i + 1) : Rat) - (Y i : Rat)) * ((Y (i + 1) : Rat) - (Y i : Rat)) = _
  rw [Rat.div_mul_cancel d]
  grind
theorem plc_x (G : Grid n X Y) {k : Int} {i : Nat} (h : spn Y k i = true) : sx (rx X) i (plc Y k i) = (val X Y k i : Rat) / 2 := by
  have d := dy_ne (spn_ne h)
  rw [val_cast]
  unfold sx plc
  show (X i : Rat) + ((k : Rat) + 1 / 2 - (Y i : Rat)) / ((Y (i + 1) : Rat) - (Y i : Rat)) * ((X (i + 1) : Rat) - (X i : Rat)) = _
  rw [slp_cast G i (spn_ne h), Rat.mul_comm (slp X Y i : Rat), ← Rat.mul_assoc, Rat.div_mul_cancel d]
  grind
theorem plc_in {k : Int} {i : Nat} (h : spn Y k i = true) : 0 < plc Y k i ∧ plc Y k i < 1 := by
  have h2 : (Y i ≤ k ∧ k < Y (i + 1)) ∨ (Y (i + 1) ≤ k ∧ k < Y i) := by simpa [spn] using h
  have e : plc Y k i * ((Y (i + 1) : Rat) - (Y i : Rat)) = (k : Rat) + 1 / 2 - (Y i : Rat) := by
    unfold plc
    rw [Rat.div_mul_cancel (dy_ne (spn_ne h))]
  generalize plc Y k i = p at *
  rcases h2 with ⟨a, b⟩ | ⟨a, b⟩
  · rw [← half_ge] at a
    rw [← half_lt] at b
    have a' : (Y i : Rat) < (k : Rat) + 1 / 2 := by
      by_cases z : (Y i : Rat) < (k : Rat) + 1 / 2
      · exact z
      · have z2 : (k : Rat) ≤ (Y i : Rat) := by grind
        rw [c_le] at z2
        have z3 : (Y i : Rat) ≤ (k : Rat) := by
          rw [half_ge] at a
          rw [c_le]
          exact a
        grind
    have dpos : 0 < (Y (i + 1) : Rat) - (Y i : Rat) := by grind
    refine ⟨?_, ?_⟩
    · have := Rat.mul_pos_iff_of_pos_right (a := p) dpos
      rw [← this, e]
      grind
    · have := Rat.mul_pos_iff_of_pos_right (a := 1 - p) dpos
      have k1 : 0 < 1 - p := by
        rw [← this]
        grind
      grind
  · have b' := b
    rw [← half_ge] at a
    have a' : (Y (i + 1) : Rat) < (k : Rat) + 1 / 2 := by
      rw [half_ge] at a
      have : (Y (i + 1) : Rat) ≤ (k : Rat) := by rw [c_le]; exact a
      grind
    rw [← half_lt] at b
    have dpos : 0 < (Y i : Rat) - (Y (i + 1) : Rat) := by grind
    refine ⟨?_, ?_⟩
    · have := Rat.mul_pos_iff_of_pos_right (a := p) dpos
      rw [← this]
      grind
    · have := Rat.mul_pos_iff_of_pos_right (a := 1 - p) dpos
      have k1 : 0 < 1 - p := by
        rw [← this]
        grind
      grind
/-- who crosses the way from a place of height k + 1/2 -/
theorem cri_val (G : Grid n X Y) (k : Int) (j : Nat) (v : Int) : cri (rx X) (rx Y) j ((v : Rat) / 2) ((k : Rat) + 1 / 2) = (spn Y k j && decide (v < val X Y k j)) := by
  unfold cri crs
  show (if (Y j : Rat) ≤ (k : Rat) + 1 / 2 ∧ (k : Rat) + 1 / 2 < (Y (j + 1) : Rat) then _ else if (Y (j + 1) : Rat) ≤ (k : Rat) + 1 / 2 ∧ (k : Rat) + 1 / 2 < (Y j : Rat) then _ else false) = _
  simp only [half_ge, half_lt]
  by_cases c : Y j ≤ k ∧ k < Y (j + 1)
  · have ne : Y (j + 1) ≠ Y j := by omega
    have h := slp_cast G j ne
    have e : lf (rx X j) (rx Y j) (rx X (j + 1)) (rx Y (j + 1)) ((v : Rat) / 2) ((k : Rat) + 1 / 2) = ((Y (j + 1) : Rat) - (Y j : Rat)) * (((val X Y k j : Int) : Rat) - (v : Rat)) * (1 / 2) := by
      rw [val_cast]
      unfold lf
      show ((X (j + 1) : Rat) - (X j : Rat)) * ((k : Rat) + 1 / 2 - (Y j : Rat)) - ((Y (j + 1) : Rat) - (Y j : Rat)) * ((v : Rat) / 2 - (X j : Rat)) = _
      rw [h]
      grind
    have dpos : 0 < (Y (j + 1) : Rat) - (Y j : Rat) := by
      have : (Y j : Rat) < (Y (j + 1) : Rat) := by rw [c_lt]; omega
      grind
    have g : (0 < lf (rx X j) (rx Y j) (rx X (j + 1)) (rx Y (j + 1)) ((v : Rat) / 2) ((k : Rat) + 1 / 2)) = (v < val X Y k j) := by
      rw [e, ← c_lt]
      have := Rat.mul_pos_iff_of_pos_left (b := (((val X Y k j : Int) : Rat) - (v : Rat))) dpos
      apply propext
      have k2 := Rat.mul_pos_iff_of_pos_right (a := ((Y (j + 1) : Rat) - (Y j : Rat)) * (((val X Y k j : Int) : Rat) - (v : Rat))) (b := 1 / 2) (by grind)
      rw [k2, this]
      constructor <;> intro _ <;> grind
    simp only [c, g, spn]
    simp
  · by_cases c2 : Y (j + 1) ≤ k ∧ k < Y j
    · have ne : Y (j + 1) ≠ Y j := by omega
      have h := slp_cast G j ne
      have e : lf (rx X j) (rx Y j) (rx X (j + 1)) (rx Y (j + 1)) ((v : Rat) / 2) ((k : Rat) + 1 / 2) = -(((Y j : Rat) - (Y (j + 1) : Rat)) * (((val X Y k j : Int) : Rat) - (v : Rat)) * (1 / 2)) := by
        rw [val_cast]
        unfold lf
        show ((X (j + 1) : Rat) - (X j : Rat)) * ((k : Rat) + 1 / 2 - (Y j : Rat)) - ((Y (j + 1) : Rat) - (Y j : Rat)) * ((v : Rat) / 2 - (X j : Rat)) = _
        rw [h]
        grind
      have dpos : 0 < (Y j : Rat) - (Y (j + 1) : Rat) := by
        have : (Y (j + 1) : Rat) < (Y j : Rat) := by rw [c_lt]; omega
        grind
      have g : (lf (rx X j) (rx Y j) (rx X (j + 1)) (rx Y (j + 1)) ((v : Rat) / 2) ((k : Rat) + 1 / 2) < 0) = (v < val X Y k j) := by
        rw [e, ← c_lt]
        have := Rat.mul_pos_iff_of_pos_left (b := (((val X Y k j : Int) : Rat) - (v : Rat))) dpos
        apply propext
        have k2 := Rat.mul_pos_iff_of_pos_right (a := ((Y j : Rat) - (Y (j + 1) : Rat)) * (((val X Y k j : Int) : Rat) - (v : Rat))) (b := 1 / 2) (by grind)
        have k3 : (-(((Y j : Rat) - (Y (j + 1) : Rat)) * (((val X Y k j : Int) : Rat) - (v : Rat)) * (1 / 2)) < 0) ↔ 0 < ((Y j : Rat) - (Y (j + 1) : Rat)) * (((val X Y k j : Int) : Rat) - (v : Rat)) * (1 / 2) := by
          constructor <;> intro _ <;> grind
        rw [k3, k2, this]
        constructor <;> intro _ <;> grind
      simp only [c, c2, g, spn]
      simp
    · simp [c, c2, spn]
theorem val_pos (G : Grid n X Y) {k : Int} {i : Nat} (h : spn Y k i = true) : 0 ≤ val X Y k i := by
  have h2 : (Y i ≤ k ∧ k < Y (i + 1)) ∨ (Y (i + 1) ≤ k ∧ k < Y i) := by simpa [spn] using h
  have a := G.x0 i
  have b := G.x0 (i + 1)
  have c := slp_ok G i (spn_ne h)
  unfold slp at c
  unfold val vl slp
  by_cases h1 : X (i + 1) = X i
  · simp only [h1, if_true]
    omega
  · by_cases h3 : X (i + 1) - X i = Y (i + 1) - Y i
    · simp only [h1, h3, if_true, if_false] at c ⊢
      omega
    · simp only [h1, h3, if_false] at c ⊢
      omega
/-- L3 -/
theorem area_neg (P : Pol n (rx X) (rx Y)) (Q : NoCom n (rx X) (rx Y)) (G : Grid n X Y) (hX : X n = X 0) (hY : Y n = Y 0) (hr : rho n (rx X) (rx Y) 0 = true) : sm (fun i => X i * Y (i + 1) - X (i + 1) * Y i) n ≤ 0 := by
  rw [area_scan G hX hY]
  refine sm_le fun k hk => alt_sum (fun i j hi hj ne si sj e => ?_) (fun i hi si => ?_) fun i hi si => val_pos G si
  · refine apart_pts P Q (s := plc Y k i) (t := plc Y k j) hi hj ne (plc_in si).1 (plc_in si).2 ?_ ?_ ⟨?_, ?_⟩
    · have := (plc_in sj).1
      grind
    · have := (plc_in sj).2
      grind
    · rw [plc_x G si, plc_x G sj, e]
    · rw [plc_y si, plc_y sj]
  · have h := par_on P hi (plc_in si).1 (plc_in si).2
    rw [hr, plc_x G si, plc_y si] at h
    unfold par at h
    rw [px_congr (g := ab (spn Y k) (val X Y k) (val X Y k i)) fun j hj => cri_val G k j (val X Y k i)] at h
    rw [h]
    have h2 : (Y i ≤ k ∧ k < Y (i + 1)) ∨ (Y (i + 1) ≤ k ∧ k < Y i) := by simpa [spn] using si
    unfold sgn pos posd
    show _ = if (true ^^ !(decide (0 < (Y (i + 1) : Rat) - (Y i : Rat)) || _)) = true then _ else _
    have d := dy_ne (spn_ne si)
    rcases h2 with ⟨a, b⟩ | ⟨a, b⟩
    · have : 0 < (Y (i + 1) : Rat) - (Y i : Rat) := by
        have : (Y i : Rat) < (Y (i + 1) : Rat) := by rw [c_lt]; omega
        grind
      simp [a, b, this]
    · have h4 : ¬ 0 < (Y (i + 1) : Rat) - (Y i : Rat) := by
        have : (Y (i + 1) : Rat) < (Y i : Rat) := by rw [c_lt]; omega
        grind
      have h5 : ¬ (Y i ≤ (k : Int) ∧ (k : Int) < Y (i + 1)) := by omega
      have h6 : decide ((Y (i + 1) : Rat) - (Y i : Rat) = 0) = false := decide_eq_false d
      simp [h5, h4, h6]
end
end Rt
namespace Rt
open Eh
/-! ### the room's lines as a closed line -/
theorem between_ok (a b c : Rat) : between a b c = decide ((a ≤ c ∧ c ≤ b) ∨ (b ≤ c ∧ c ≤ a)) := by
  unfold between
  have e1 : min a b = if a ≤ b then a else b := rfl
  have e2 : max a b = if a ≤ b then b else a := rfl
  rw [e1, e2]
  by_cases h : a ≤ b <;> simp only [h, if_true, if_false] <;> grind
theorem onLine_of (ux uy vx vy t : Rat) (u0 v0 p0 : Rat) (h0 : 0 ≤ t) (h1 : t ≤ 1) : onLine (⟨ux, uy, u0⟩, ⟨vx, vy, v0⟩) ⟨ux + t * (vx - ux), uy + t * (vy - uy), p0⟩ = true := by
  have k : ∀ a b : Rat, between a b (a + t * (b - a)) = true := by
    intro a b
    rw [between_ok]
    by_cases z : a ≤ b
    · have k1 := mnn (x := t) (y := b - a) h0 (by grind)
      have k2 := mnn (x := 1 - t) (y := b - a) (by grind) (by grind)
      exact decide_eq_true (.inl ⟨by grind, by grind⟩)
    · have k1 := mnn (x := t) (y := a - b) h0 (by grind)
      have k2 := mnn (x := 1 - t) (y := a - b) (by grind) (by grind)
      exact decide_eq_true (.inr ⟨by grind, by grind⟩)
  unfold onLine
  show (left _ _ _ == 0 && (between ux vx (ux + t * (vx - ux)) && between uy vy (uy + t * (vy - uy)))) = true
  rw [k, k]
  have e : left ⟨ux, uy, u0⟩ ⟨vx, vy, v0⟩ ⟨ux + t * (vx - ux), uy + t * (vy - uy), p0⟩ = 0 := by
    unfold left
    grind
  rw [e]
  rfl
theorem onLine_inv {u v p : Pt} (h : onLine (u, v) p = true) (ne : v.x - u.x ≠ 0 ∨ v.y - u.y ≠ 0) : ∃ t : Rat, 0 ≤ t ∧ t ≤ 1 ∧ p.x = u.x + t * (v.x - u.x) ∧ p.y = u.y + t * (v.y - u.y) := by
  unfold onLine at h
  simp only [Bool.and_eq_true, beq_iff_eq, between_ok, decide_eq_true_eq] at h
  obtain ⟨h1, h2, h3⟩ := h
  unfold left at h1
  have par01 : ∀ a b c : Rat, b - a ≠ 0 → (a ≤ c ∧ c ≤ b) ∨ (b ≤ c ∧ c ≤ a) → 0 ≤ (c - a) / (b - a) ∧ (c - a) / (b - a) ≤ 1 := by
    intro a b c ne h
    have e := Rat.div_mul_cancel (a := c - a) ne
    generalize (c - a) / (b - a) = t at *
    by_cases z : 0 < b - a
    · have k1 : ¬ t < 0 := fun q => by
        have := mpp (x := -t) (y := b - a) (by grind) z
        grind
      have k2 : ¬ 1 < t := fun q => by
        have := mpp (x := t - 1) (y := b - a) (by grind) z
        grind
      exact ⟨by grind, by grind⟩
    · have z2 : 0 < a - b := by grind
      have k1 : ¬ t < 0 := fun q => by
        have := mpp (x := -t) (y := a - b) (by grind) z2
        grind
      have k2 : ¬ 1 < t := fun q => by
        have := mpp (x := t - 1) (y := a - b) (by grind) z2
        grind
      exact ⟨by grind, by grind⟩
  by_cases dx : v.x - u.x = 0
  · have dy : v.y - u.y ≠ 0 := by
      rcases ne with q | q
      · exact absurd dx q
      · exact q
    obtain ⟨k1, k2⟩ := par01 _ _ _ dy h3
    refine ⟨(p.y - u.y) / (v.y - u.y), k1, k2, ?_, ?_⟩
    · rw [dx] at h1 ⊢
      have : (v.y - u.y) * (p.x - u.x) = 0 := by grind
      rcases Rat.mul_eq_zero.mp this with q | q
      · exact absurd q dy
      · grind
    · rw [Rat.div_mul_cancel dy]
      grind
  · obtain ⟨k1, k2⟩ := par01 _ _ _ dx h2
    refine ⟨(p.x - u.x) / (v.x - u.x), k1, k2, ?_, ?_⟩
    · rw [Rat.div_mul_cancel dx]
      grind
    · have e : (p.x - u.x) / (v.x - u.x) * (v.x - u.x) = p.x - u.x := Rat.div_mul_cancel dx
      generalize (p.x - u.x) / (v.x - u.x) = t at *
      have : (v.x - u.x) * (p.y - u.y - t * (v.y - u.y)) = 0 := by grind
      rcases Rat.mul_eq_zero.mp this with q | q
      · exact absurd q dx
      · grind
/-- two lines without a common point, by what the specification asks -/
theorem nocom_of {a b u v : Pt} (hm : meet (a, b) (u, v) = false) (nd : b.x - a.x ≠ 0 ∨ b.y - a.y ≠ 0) {s t : Rat} (hs : 0 ≤ s) (hs1 : s ≤ 1) (ht : 0 ≤ t) (ht1 : t ≤ 1)
    (hx : a.x + s * (b.x - a.x) = u.x + t * (v.x - u.x)) (hy : a.y + s * (b.y - a.y) = u.y + t * (v.y - u.y)) : False := by
  unfold meet at hm
  simp only [Bool.or_eq_false_iff, Bool.and_eq_false_iff, decide_eq_false_iff_not] at hm
  obtain ⟨h0, h1, h2, h3, h4⟩ := hm
  obtain ⟨ax, ay, az⟩ := a
  obtain ⟨bx, byy, bz⟩ := b
  obtain ⟨ux, uy, uz⟩ := u
  obtain ⟨vx, vy, vz⟩ := v
  dsimp only at *
  -- onLine's four
  have n1 : ∀ t : Rat, 0 ≤ t → t ≤ 1 → ¬ (ux = ax + t * (bx - ax) ∧ uy = ay + t * (byy - ay)) := fun t k0 k1 ⟨e1, e2⟩ => by
    have := onLine_of ax ay bx byy t az bz uz k0 k1
    rw [← e1, ← e2, h1] at this
    cases this
  have n2 : ∀ t : Rat, 0 ≤ t → t ≤ 1 → ¬ (vx = ax + t * (bx - ax) ∧ vy = ay + t * (byy - ay)) := fun t k0 k1 ⟨e1, e2⟩ => by
    have := onLine_of ax ay bx byy t az bz vz k0 k1
    rw [← e1, ← e2, h2] at this
    cases this
  have n3 : ∀ t : Rat, 0 ≤ t → t ≤ 1 → ¬ (ax = ux + t * (vx - ux) ∧ ay = uy + t * (vy - uy)) := fun t k0 k1 ⟨e1, e2⟩ => by
    have := onLine_of ux uy vx vy t uz vz az k0 k1
    rw [← e1, ← e2, h3] at this
    cases this
  have n4 : ∀ t : Rat, 0 ≤ t → t ≤ 1 → ¬ (bx = ux + t * (vx - ux) ∧ byy = uy + t * (vy - uy)) := fun t k0 k1 ⟨e1, e2⟩ => by
    have := onLine_of ux uy vx vy t uz vz bz k0 k1
    rw [← e1, ← e2, h4] at this
    cases this
  unfold left at h0
  dsimp only at h0
  clear h1 h2 h3 h4
  have i1 := id1 ux uy vx vy ax ay bx byy
  have e1 : (1 - s) * lf ux uy vx vy ax ay + s * lf ux uy vx vy bx byy = 0 := by
    unfold lf
    grind
  have e2 : (1 - t) * lf ax ay bx byy ux uy + t * lf ax ay bx byy vx vy = 0 := by
    unfold lf
    grind
  have h0' : ¬ (lf ax ay bx byy ux uy * lf ax ay bx byy vx vy < 0) ∨ ¬ (lf ux uy vx vy ax ay * lf ux uy vx vy bx byy < 0) := h0
  have opp : ∀ s x y : Rat, 0 ≤ s → s ≤ 1 → (1 - s) * x + s * y = 0 → x ≠ 0 → y ≠ 0 → x * y < 0 := by
    intro s x y s0 s1 e nx ny
    have p0 : 0 < s := by
      by_cases z : s = 0
      · subst z
        grind
      · grind
    have p1 : 0 < 1 - s := by
      by_cases z : s = 1
      · subst z
        grind
      · grind
    by_cases z : 0 < x
    · have k := mpp p1 z
      have q : ¬ 0 < y := fun w => by
        have := mpp p0 w
        grind
      have := mpp (x := x) (y := -y) z (by grind)
      grind
    · have z2 : 0 < -x := by grind
      have k := mpp p1 z2
      have q : ¬ 0 < -y := fun w => by
        have := mpp p0 w
        grind
      have := mpp (x := -x) (y := y) z2 (by grind)
      grind
  have end1 : ∀ s x y : Rat, (1 - s) * x + s * y = 0 → x = 0 → y ≠ 0 → s = 0 := by
    intro s x y e zx ny
    subst zx
    have : s * y = 0 := by grind
    rcases Rat.mul_eq_zero.mp this with q | q
    · exact q
    · exact absurd q ny
  have end2 : ∀ s x y : Rat, (1 - s) * x + s * y = 0 → x ≠ 0 → y = 0 → s = 1 := by
    intro s x y e nx zy
    subst zy
    have : (1 - s) * x = 0 := by grind
    rcases Rat.mul_eq_zero.mp this with q | q
    · grind
    · exact absurd q nx
  by_cases la : lf ux uy vx vy ax ay = 0
  · by_cases lb : lf ux uy vx vy bx byy = 0
    · -- on one line
      have lu : lf ax ay bx byy ux uy = 0 := by grind
      have lv : lf ax ay bx byy vx vy = 0 := by grind
      have hN : 0 < (bx - ax) * (bx - ax) + (byy - ay) * (byy - ay) := by
        have sq : ∀ z : Rat, 0 ≤ z * z := fun z => by
          by_cases q : 0 ≤ z
          · exact mnn q q
          · have := mnn (x := -z) (y := -z) (by grind) (by grind)
            grind
        have sq2 : ∀ z : Rat, z ≠ 0 → 0 < z * z := fun z nz => by
          by_cases q : 0 < z
          · exact mpp q q
          · have := mpp (x := -z) (y := -z) (by grind) (by grind)
            grind
        rcases nd with q | q
        · have := sq2 _ q
          have := sq (byy - ay)
          grind
        · have := sq2 _ q
          have := sq (bx - ax)
          grind
      have dec : ∀ px py : Rat, lf ax ay bx byy px py = 0 → ∃ f : Rat, px = ax + f * (bx - ax) ∧ py = ay + f * (byy - ay) := by
        intro px py hp
        have nz : (bx - ax) * (bx - ax) + (byy - ay) * (byy - ay) ≠ 0 := by grind
        refine ⟨((px - ax) * (bx - ax) + (py - ay) * (byy - ay)) / ((bx - ax) * (bx - ax) + (byy - ay) * (byy - ay)), ?_, ?_⟩
        · have e := Rat.div_mul_cancel (a := (px - ax) * (bx - ax) + (py - ay) * (byy - ay)) nz
          generalize ((px - ax) * (bx - ax) + (py - ay) * (byy - ay)) / ((bx - ax) * (bx - ax) + (byy - ay) * (byy - ay)) = f at *
          unfold lf at hp
          have : ((bx - ax) * (bx - ax) + (byy - ay) * (byy - ay)) * (px - ax - f * (bx - ax)) = 0 := by grind
          rcases Rat.mul_eq_zero.mp this with q | q
          · exact absurd q nz
          · grind
        · have e := Rat.div_mul_cancel (a := (px - ax) * (bx - ax) + (py - ay) * (byy - ay)) nz
          generalize ((px - ax) * (bx - ax) + (py - ay) * (byy - ay)) / ((bx - ax) * (bx - ax) + (byy - ay) * (byy - ay)) = f at *
          unfold lf at hp
          have : ((bx - ax) * (bx - ax) + (byy - ay) * (byy - ay)) * (py - ay - f * (byy - ay)) = 0 := by grind
          rcases Rat.mul_eq_zero.mp this with q | q
          · exact absurd q nz
          · grind
      obtain ⟨f, f1, f2⟩ := dec ux uy lu
      obtain ⟨g, g1, g2⟩ := dec vx vy lv
      have es : s = (1 - t) * f + t * g := by
        rcases nd with q | q
        · have : (bx - ax) * (s - ((1 - t) * f + t * g)) = 0 := by grind
          rcases Rat.mul_eq_zero.mp this with z | z
          · exact absurd z q
          · grind
        · have : (byy - ay) * (s - ((1 - t) * f + t * g)) = 0 := by grind
          rcases Rat.mul_eq_zero.mp this with z | z
          · exact absurd z q
          · grind
      by_cases cf : 0 ≤ f ∧ f ≤ 1
      · exact n1 f cf.1 cf.2 ⟨f1, f2⟩
      · by_cases cg : 0 ≤ g ∧ g ≤ 1
        · exact n2 g cg.1 cg.2 ⟨g1, g2⟩
        · -- f and g on the two sides
          have opposite : (f < 0 ∧ 1 < g) ∨ (1 < f ∧ g < 0) := by
            by_cases c1 : f < 0
            · by_cases c2 : g < 0
              · exfalso
                have k1 := mnn (x := 1 - t) (y := -f) (by grind) (by grind)
                have k2 := mnn (x := t) (y := -g) (by grind) (by grind)
                have k3 : s = 0 := by grind
                by_cases z : t = 0
                · subst z
                  grind
                · have := mpp (x := t) (y := -g) (by grind) (by grind)
                  grind
              · exact .inl ⟨c1, by grind⟩
            · by_cases c2 : g < 0
              · exact .inr ⟨by grind, c2⟩
              · exfalso
                have c3 : 1 < f := by grind
                have c4 : 1 < g := by grind
                have k1 := mnn (x := 1 - t) (y := f - 1) (by grind) (by grind)
                have k2 := mnn (x := t) (y := g - 1) (by grind) (by grind)
                by_cases z : t = 0
                · subst z
                  grind
                · have := mpp (x := t) (y := g - 1) (by grind) (by grind)
                  grind
          have gf : g - f ≠ 0 := by grind
          have e := Rat.div_mul_cancel (a := -f) gf
          have hr : 0 ≤ -f / (g - f) ∧ -f / (g - f) ≤ 1 := by
            generalize -f / (g - f) = r at *
            rcases opposite with ⟨c1, c2⟩ | ⟨c1, c2⟩
            · have k1 : ¬ r < 0 := fun q => by
                have := mpp (x := -r) (y := g - f) (by grind) (by grind)
                grind
              have k2 : ¬ 1 < r := fun q => by
                have := mpp (x := r - 1) (y := g - f) (by grind) (by grind)
                grind
              exact ⟨by grind, by grind⟩
            · have k1 : ¬ r < 0 := fun q => by
                have := mpp (x := -r) (y := f - g) (by grind) (by grind)
                grind
              have k2 : ¬ 1 < r := fun q => by
                have := mpp (x := r - 1) (y := f - g) (by grind) (by grind)
                grind
              exact ⟨by grind, by grind⟩
          refine n3 _ hr.1 hr.2 ?_
          generalize -f / (g - f) = r at *
          clear hr n1 n2 n3 n4 h0 h0' i1 e1 e2 la lb lu lv dec opp end1 end2 es opposite cf cg hx hy
          constructor
          · grind
          · grind
    · have s0 := end1 s _ _ e1 la lb
      subst s0
      exact n3 t ht ht1 ⟨by grind, by grind⟩
  · by_cases lb : lf ux uy vx vy bx byy = 0
    · have s1 := end2 s _ _ e1 la lb
      subst s1
      exact n4 t ht ht1 ⟨by grind, by grind⟩
    · have o1 := opp s _ _ hs hs1 e1 la lb
      by_cases lu : lf ax ay bx byy ux uy = 0
      · by_cases lv : lf ax ay bx byy vx vy = 0
        · have e : lf ux uy vx vy ax ay = lf ux uy vx vy bx byy := by grind
          rw [e] at o1
          generalize lf ux uy vx vy bx byy = z at *
          by_cases q : 0 ≤ z
          · have := mnn q q
            grind
          · have := mnn (x := -z) (y := -z) (by grind) (by grind)
            grind
        · have t0 := end1 t _ _ e2 lu lv
          subst t0
          exact n1 s hs hs1 ⟨by grind, by grind⟩
      · by_cases lv : lf ax ay bx byy vx vy = 0
        · have t1 := end2 t _ _ e2 lu lv
          subst t1
          exact n2 s hs hs1 ⟨by grind, by grind⟩
        · have o2 := opp t _ _ ht ht1 e2 lu lv
          rcases h0' with q | q
          · exact q o2
          · exact q o1
/-- lines without a common point, by signs -/
theorem dis_of_nocom {ux uy vx vy ax ay bx byy : Rat} (h : ∀ s t : Rat, 0 ≤ s → s ≤ 1 → 0 ≤ t → t ≤ 1 → ¬ (ax + s * (bx - ax) = ux + t * (vx - ux) ∧ ay + s * (byy - ay) = uy + t * (vy - uy))) :
    Dis (lf ux uy vx vy ax ay) (lf ux uy vx vy bx byy) (lf ax ay bx byy ux uy) (lf ax ay bx byy vx vy) := by
  have i1 := id1 ux uy vx vy ax ay bx byy
  by_cases c : Dis (lf ux uy vx vy ax ay) (lf ux uy vx vy bx byy) (lf ax ay bx byy ux uy) (lf ax ay bx byy vx vy)
  · exact c
  · exfalso
    by_cases d : lf ux uy vx vy ax ay - lf ux uy vx vy bx byy = 0
    · refine c ?_
      unfold Dis
      generalize lf ux uy vx vy ax ay = la at *
      generalize lf ux uy vx vy bx byy = lb at *
      generalize lf ax ay bx byy ux uy = lu at *
      generalize lf ax ay bx byy vx vy = lv at *
      clear h c
      grind
    · have d2 : lf ax ay bx byy ux uy - lf ax ay bx byy vx vy ≠ 0 := by grind
      have e1 := Rat.div_mul_cancel (a := lf ux uy vx vy ax ay) d
      have e2 := Rat.div_mul_cancel (a := lf ax ay bx byy ux uy) d2
      have r01 : ∀ x y r : Rat, x - y ≠ 0 → r * (x - y) = x → ¬ (0 < x ∧ 0 < y) → ¬ (x < 0 ∧ y < 0) → 0 ≤ r ∧ r ≤ 1 := by
        intro x y r n e a b
        by_cases z : 0 < x - y
        · have k1 : ¬ r < 0 := fun q => by
            have := mpp (x := -r) (y := x - y) (by grind) z
            grind
          have k2 : ¬ 1 < r := fun q => by
            have := mpp (x := r - 1) (y := x - y) (by grind) z
            grind
          exact ⟨by grind, by grind⟩
        · have k1 : ¬ r < 0 := fun q => by
            have := mpp (x := -r) (y := y - x) (by grind) (by grind)
            grind
          have k2 : ¬ 1 < r := fun q => by
            have := mpp (x := r - 1) (y := y - x) (by grind) (by grind)
            grind
          exact ⟨by grind, by grind⟩
      have c' := c
      unfold Dis at c'
      have s01 := r01 _ _ _ d e1 (fun z => c' (.inl z)) fun z => c' (.inr (.inl z))
      have t01 := r01 _ _ _ d2 e2 (fun z => c' (.inr (.inr (.inl z)))) fun z => c' (.inr (.inr (.inr (.inl z))))
      refine h _ _ s01.1 s01.2 t01.1 t01.2 ?_
      have ed : lf ax ay bx byy ux uy - lf ax ay bx byy vx vy = -(lf ux uy vx vy ax ay - lf ux uy vx vy bx byy) := by grind
      rw [ed] at e2 d2
      generalize lf ux uy vx vy ax ay / (lf ux uy vx vy ax ay - lf ux uy vx vy bx byy) = s at *
      rw [← ed] at e2
      generalize hT : lf ax ay bx byy ux uy / (lf ax ay bx byy ux uy - lf ax ay bx byy vx vy) = t at *
      rw [ed] at e2
      clear c c' hT h i1 s01 t01 r01 ed d2
      have fin : ∀ z : Rat, (lf ux uy vx vy ax ay - lf ux uy vx vy bx byy) * z = 0 → z = 0 := fun z k => by
        rcases Rat.mul_eq_zero.mp k with q | q
        · exact absurd q d
        · exact q
      constructor
      · have := fin (ax + s * (bx - ax) - (ux + t * (vx - ux))) (by unfold lf at *; grind)
        grind
      · have := fin (ay + s * (byy - ay) - (uy + t * (vy - uy))) (by unfold lf at *; grind)
        grind
end Rt
namespace Rt
open Eh
structure RoomOk (r : Room) : Prop where
  n3 : 3 ≤ r.n
  n64 : r.n ≤ 64
  h1 : 1 ≤ r.h
  h2 : r.h ≤ 4095
  fl : r.floor_ < 8
  ce : r.ceiling < 8
  crn : ∀ i, 0 ≤ (r.corner i).x ∧ (r.corner i).x ≤ 4095 ∧ 0 ≤ (r.corner i).y ∧ (r.corner i).y ≤ 4095 ∧ (r.corner i).stuff < 8
  dir : ∀ i, dirOk (r.line i) = true
  ali : ∀ i, alongside (r.line i) (r.line (i + 1)) = false
  apart : ∀ i j, i < r.n → j < r.n → neighbours r.n i j = false → meet (r.line i) (r.line j) = false
  area : 0 < r.area2
theorem corner_mod (r : Room) (i : Nat) : r.corner (i % r.n) = r.corner i := by
  unfold Room.corner
  rw [Nat.mod_mod]
theorem corner_mod1 (r : Room) (i : Nat) : r.corner (i % r.n + 1) = r.corner (i + 1) := by
  unfold Room.corner
  rw [Nat.mod_add_mod]
theorem line_mod (r : Room) (i : Nat) : r.line (i % r.n) = r.line i := by
  unfold Room.line
  rw [corner_mod, corner_mod1]
theorem line_mod1 (r : Room) (i : Nat) : r.line (i % r.n + 1) = r.line (i + 1) := by
  rw [← line_mod r (i % r.n + 1), Nat.mod_add_mod, line_mod]
theorem roomOk_of {r : Room} (h : r.fault = none) : RoomOk r := by
  unfold Room.fault at h
  split at h
  · cases h
  · rename_i h1
    split at h
    · cases h
    · rename_i h2
      split at h
      · cases h
      · rename_i h3
        split at h
        · cases h
        · rename_i h4
          split at h
          · cases h
          · rename_i h5
            split at h
            · cases h
            · rename_i h6
              split at h
              · cases h
              · rename_i h7
                have hn : 3 ≤ r.n ∧ r.n ≤ 64 := by
                  unfold MOST at h1
                  omega
                have hpos : 0 < r.n := by omega
                have hw : WIDE = 4095 := rfl
                have hst : STUFFS = 8 := rfl
                rw [hw, hst] at h2
                rw [List.find?_eq_none] at h3 h4 h5 h6
                have m : ∀ i, i % r.n ∈ List.range r.n := fun i => List.mem_range.mpr (Nat.mod_lt _ hpos)
                refine ⟨hn.1, hn.2, by omega, by omega, by omega, by omega, fun i => ?_, fun i => ?_, fun i => ?_, fun i j hi hj hnb => ?_, by omega⟩
                · have q := h3 _ (m i)
                  rw [corner_mod, hw, hst] at q
                  simp only [Bool.or_eq_true, decide_eq_true_eq] at q
                  omega
                · have q := h4 _ (m i)
                  rw [line_mod] at q
                  simpa using q
                · have q := h5 _ (m i)
                  rw [line_mod, line_mod1] at q
                  simpa using q
                · have q := h6 i (List.mem_range.mpr hi)
                  have q2 : ((List.range r.n).any fun (j : Nat) => !neighbours r.n i j && meet (r.line i) (r.line j)) = false := by simpa using q
                  rw [List.any_eq_false] at q2
                  have q3 := q2 j (List.mem_range.mpr hj)
                  rw [hnb] at q3
                  simpa using q3
section
variable {r : Room}
abbrev cX (r : Room) : Nat → Int := fun i => (r.corner i).x
abbrev cY (r : Room) : Nat → Int := fun i => (r.corner i).y
theorem corner_per (r : Room) (i : Nat) : r.corner (i + r.n) = r.corner i := by
  unfold Room.corner
  rw [Nat.add_mod_right]
theorem nb_false {n i j : Nat} (a : i ≠ j) (b : (i + 1) % n ≠ j) (c : (j + 1) % n ≠ i) : neighbours n i j = false := by
  unfold neighbours
  simp [a, b, c]
theorem grid_of (R : RoomOk r) : Grid r.n (cX r) (cY r) := by
  refine ⟨fun i => (R.crn i).1, fun i => (R.crn i).2.2.1, fun i => (R.crn i).2.2.2.1, fun i => ?_⟩
  have h := R.dir i
  unfold dirOk Room.line Corner.at_ at h
  simp only [Bool.and_eq_true, Bool.or_eq_true, beq_iff_eq] at h
  have cast : ∀ a b c d : Int, ((a : Rat) - (b : Rat) = (c : Rat) - (d : Rat)) → a - b = c - d := fun a b c d z => by
    rw [← Rat.intCast_sub, ← Rat.intCast_sub, Rat.intCast_inj] at z
    exact z
  have cast0 : ∀ a b : Int, ((a : Rat) - (b : Rat) = 0) → a = b := fun a b z => by
    have : (a : Rat) = (b : Rat) := by grind
    exact Rat.intCast_inj.mp this
  show (r.corner (i + 1)).x = (r.corner i).x ∨ (r.corner (i + 1)).y = (r.corner i).y ∨ (r.corner (i + 1)).x - (r.corner i).x = (r.corner (i + 1)).y - (r.corner i).y ∨ (r.corner (i + 1)).x - (r.corner i).x = -((r.corner (i + 1)).y - (r.corner i).y)
  rcases h.2 with q | q | q | q
  · exact .inl (cast0 _ _ q)
  · exact .inr (.inl (cast0 _ _ q))
  · exact .inr (.inr (.inl (cast _ _ _ _ q)))
  · refine .inr (.inr (.inr ?_))
    have q2 : ((r.corner (i + 1)).x : Rat) - ((r.corner i).x : Rat) = ((r.corner i).y : Rat) - ((r.corner (i + 1)).y : Rat) := by grind
    have := cast _ _ _ _ q2
    omega
theorem line_nd (R : RoomOk r) (i : Nat) : ((r.line i).2.x - (r.line i).1.x ≠ 0 ∨ (r.line i).2.y - (r.line i).1.y ≠ 0) := by
  have h := R.dir i
  unfold dirOk at h
  simp only [Bool.and_eq_true, Bool.not_eq_true', Bool.and_eq_false_iff, beq_eq_false_iff_ne] at h
  exact h.1
theorem nocom_room (R : RoomOk r) : NoCom r.n (rx (cX r)) (rx (cY r)) := by
  intro i j hi hj a b c s t hs hs1 ht ht1 ⟨e1, e2⟩
  exact nocom_of (R.apart i j hi hj (nb_false a b c)) (line_nd R i) hs hs1 ht ht1 e1 e2
theorem pol_of (R : RoomOk r) : Pol r.n (rx (cX r)) (rx (cY r)) := by
  refine ⟨R.n3, fun i => ?_, fun i => ?_, fun i => ?_, fun i j hi hj a b c => ?_⟩
  · show (((r.corner (i + r.n)).x : Int) : Rat) = _
    rw [corner_per]
  · show (((r.corner (i + r.n)).y : Int) : Rat) = _
    rw [corner_per]
  · have h := R.ali i
    unfold alongside Room.line Corner.at_ at h
    simp only [beq_eq_false_iff_ne] at h
    exact h
  · exact dis_of_nocom fun s t hs hs1 ht ht1 q => nocom_room R i j hi hj a b c s t hs hs1 ht ht1 q
theorem foldr_sm (f : Nat → Int) : ∀ n, ((List.range n).map f).foldr (fun (a b : Int) => a + b) 0 = sm f n
  | 0 => rfl
  | n + 1 => by
    rw [List.range_succ, List.map_append, List.foldr_append]
    show ((List.range n).map f).foldr (fun (a b : Int) => a + b) (f n + 0) = sm f n + f n
    have acc : ∀ (l : List Int) (z : Int), l.foldr (fun (a b : Int) => a + b) z = l.foldr (fun (a b : Int) => a + b) 0 + z := by
      intro l
      induction l with
      | nil => intro z; simp
      | cons x l ih =>
        intro z
        rw [List.foldr_cons, List.foldr_cons, ih z]
        omega
    rw [acc, foldr_sm f n]
    omega
/-- the right hand of every wall is outside -/
theorem rho_room (R : RoomOk r) : rho r.n (rx (cX r)) (rx (cY r)) 0 = false := by
  cases h : rho r.n (rx (cX r)) (rx (cY r)) 0 with
  | false => rfl
  | true =>
    exfalso
    have hp : r.corner r.n = r.corner 0 := by
      have := corner_per r 0
      rwa [Nat.zero_add] at this
    have a := area_neg (pol_of R) (nocom_room R) (grid_of R) (by show (r.corner r.n).x = _; rw [hp]) (by show (r.corner r.n).y = _; rw [hp]) h
    have b := R.area
    unfold Room.area2 at b
    rw [foldr_sm fun i => (r.corner i).x * (r.corner (i + 1)).y - (r.corner (i + 1)).x * (r.corner i).y] at b
    exact absurd (Int.lt_of_lt_of_le b a) (Int.lt_irrefl 0)
theorem filter_px (f : Nat → Pt × Pt) (g : Pt × Pt → Bool) : ∀ n, ((((List.range n).map f).filter g).length % 2 == 1) = px (fun i => g (f i)) n
  | 0 => rfl
  | n + 1 => by
    rw [List.range_succ, List.map_append, List.filter_append, List.length_append]
    have ih := filter_px f g n
    show _ = (px (fun i => g (f i)) n ^^ g (f n))
    rw [← ih]
    show (((((List.range n).map f).filter g).length + ([f n].filter g).length) % 2 == 1) = _
    generalize (((List.range n).map f).filter g).length = k
    cases hg : g (f n) with
    | true =>
      rw [List.filter_cons_of_pos hg]
      show ((k + 1) % 2 == 1) = _
      rcases Nat.mod_two_eq_zero_or_one k with q | q
      · have : (k + 1) % 2 = 1 := by omega
        simp [q, this]
      · have : (k + 1) % 2 = 0 := by omega
        simp [q, this]
    | false =>
      rw [List.filter_cons_of_neg (by rw [hg]; decide)]
      simp
theorem within_par (r : Room) (p : Pt) : ((r.lines.filter (crosses p)).length % 2 == 1) = par r.n (rx (cX r)) (rx (cY r)) p.x p.y := by
  unfold Room.lines
  rw [filter_px]
  rfl
/-- what no line touches strictly between, by signs: from p, which is on none but its own -/
theorem dis_touch {u v p q : Pt} (ht : touches q p (u, v) = false) (hp : ∀ t : Rat, 0 ≤ t → t ≤ 1 → ¬ (p.x = u.x + t * (v.x - u.x) ∧ p.y = u.y + t * (v.y - u.y))) (hd : p.x - q.x ≠ 0 ∨ p.y - q.y ≠ 0) :
    Dis (lf u.x u.y v.x v.y p.x p.y) (lf u.x u.y v.x v.y (q.x + 1 / 2 * (p.x - q.x)) (q.y + 1 / 2 * (p.y - q.y))) (lf p.x p.y (q.x + 1 / 2 * (p.x - q.x)) (q.y + 1 / 2 * (p.y - q.y)) u.x u.y) (lf p.x p.y (q.x + 1 / 2 * (p.x - q.x)) (q.y + 1 / 2 * (p.y - q.y)) v.x v.y) := by
  obtain ⟨ux, uy, uz⟩ := u
  obtain ⟨vx, vy, vz⟩ := v
  obtain ⟨px, py, pz⟩ := p
  obtain ⟨qx, qy, qz⟩ := q
  dsimp only at *
  have e1 : lf ux uy vx vy px py = turn (ux - qx) (uy - qy) (vx - ux) (vy - uy) - turn (px - qx) (py - qy) (vx - ux) (vy - uy) := by unfold lf turn; grind
  have e2 : lf ux uy vx vy (qx + 1 / 2 * (px - qx)) (qy + 1 / 2 * (py - qy)) = turn (ux - qx) (uy - qy) (vx - ux) (vy - uy) - turn (px - qx) (py - qy) (vx - ux) (vy - uy) / 2 := by unfold lf turn; grind
  have e3 : lf px py (qx + 1 / 2 * (px - qx)) (qy + 1 / 2 * (py - qy)) ux uy = turn (ux - qx) (uy - qy) (px - qx) (py - qy) / 2 := by unfold lf turn; grind
  have e4 : lf px py (qx + 1 / 2 * (px - qx)) (qy + 1 / 2 * (py - qy)) vx vy = (turn (ux - qx) (uy - qy) (px - qx) (py - qy) - turn (px - qx) (py - qy) (vx - ux) (vy - uy)) / 2 := by unfold lf turn; grind
  rw [e1, e2, e3, e4]
  clear e1 e2 e3 e4
  have hp2 : turn (px - qx) (py - qy) (vx - ux) (vy - uy) ≠ 0 → turn (ux - qx) (uy - qy) (vx - ux) (vy - uy) = turn (px - qx) (py - qy) (vx - ux) (vy - uy) →
      ¬ (0 ≤ turn (ux - qx) (uy - qy) (px - qx) (py - qy) / turn (px - qx) (py - qy) (vx - ux) (vy - uy) ∧ turn (ux - qx) (uy - qy) (px - qx) (py - qy) / turn (px - qx) (py - qy) (vx - ux) (vy - uy) ≤ 1) := by
    intro nz el ⟨k0, k1⟩
    refine hp _ k0 k1 ?_
    have e := Rat.div_mul_cancel (a := turn (ux - qx) (uy - qy) (px - qx) (py - qy)) nz
    generalize turn (ux - qx) (uy - qy) (px - qx) (py - qy) / turn (px - qx) (py - qy) (vx - ux) (vy - uy) = t at *
    have fin : ∀ z : Rat, turn (px - qx) (py - qy) (vx - ux) (vy - uy) * z = 0 → z = 0 := fun z k => by
      rcases Rat.mul_eq_zero.mp k with w | w
      · exact absurd w nz
      · exact w
    constructor
    · have := fin (px - (ux + t * (vx - ux))) (by unfold turn at *; grind)
      grind
    · have := fin (py - (uy + t * (vy - uy))) (by unfold turn at *; grind)
      grind
  have ht2 : (if turn (px - qx) (py - qy) (vx - ux) (vy - uy) ≠ 0 then
      (decide (0 < turn (ux - qx) (uy - qy) (vx - ux) (vy - uy) / turn (px - qx) (py - qy) (vx - ux) (vy - uy)) && (decide (turn (ux - qx) (uy - qy) (vx - ux) (vy - uy) / turn (px - qx) (py - qy) (vx - ux) (vy - uy) < 1) &&
        (decide (0 ≤ turn (ux - qx) (uy - qy) (px - qx) (py - qy) / turn (px - qx) (py - qy) (vx - ux) (vy - uy)) && decide (turn (ux - qx) (uy - qy) (px - qx) (py - qy) / turn (px - qx) (py - qy) (vx - ux) (vy - uy) ≤ 1)))) else true) = false ∨
      turn (px - qx) (py - qy) (vx - ux) (vy - uy) = 0 := by
    by_cases z : turn (px - qx) (py - qy) (vx - ux) (vy - uy) = 0
    · exact .inr z
    · refine .inl ?_
      unfold touches at ht
      dsimp only at ht
      rw [if_pos z] at ht ⊢
      exact ht
  generalize turn (px - qx) (py - qy) (vx - ux) (vy - uy) = d at *
  generalize turn (ux - qx) (uy - qy) (vx - ux) (vy - uy) = l at *
  generalize turn (ux - qx) (uy - qy) (px - qx) (py - qy) = w at *
  clear ht hp hd
  by_cases z : d = 0
  · subst z
    unfold Dis
    grind
  · have ht3 := ht2.resolve_right z
    rw [if_pos z] at ht3
    simp only [Bool.and_eq_false_iff, decide_eq_false_iff_not] at ht3
    have el := Rat.div_mul_cancel (a := l) z
    have ew := Rat.div_mul_cancel (a := w) z
    have hp3 := hp2 z
    have hq : l / d = 1 → l = d := fun k => by
      rw [k] at el
      grind
    generalize l / d = a at *
    generalize w / d = b at *
    clear ht2 hp2
    subst el
    subst ew
    unfold Dis
    by_cases dp : 0 < d
    · by_cases c1 : 0 < a
      · by_cases c2 : a < 1
        · have c3 : ¬ 0 ≤ b ∨ ¬ b ≤ 1 := by grind
          rcases c3 with c | c
          · have k := mpp (x := -b) (y := d) (by grind) dp
            grind
          · have k := mpp (x := b - 1) (y := d) (by grind) dp
            grind
        · by_cases c4 : a = 1
          · have c3 := hp3 (hq c4)
            have c5 : ¬ 0 ≤ b ∨ ¬ b ≤ 1 := by grind
            rcases c5 with c | c
            · have k := mpp (x := -b) (y := d) (by grind) dp
              grind
            · have k := mpp (x := b - 1) (y := d) (by grind) dp
              grind
          · have k := mpp (x := a - 1) (y := d) (by grind) dp
            grind
      · have k := mnn (x := -a) (y := d) (by grind) (by grind)
        grind
    · have dn : 0 < -d := by grind
      by_cases c1 : 0 < a
      · by_cases c2 : a < 1
        · have c3 : ¬ 0 ≤ b ∨ ¬ b ≤ 1 := by grind
          rcases c3 with c | c
          · have k := mpp (x := -b) (y := -d) (by grind) dn
            grind
          · have k := mpp (x := b - 1) (y := -d) (by grind) dn
            grind
        · by_cases c4 : a = 1
          · have c3 := hp3 (hq c4)
            have c5 : ¬ 0 ≤ b ∨ ¬ b ≤ 1 := by grind
            rcases c5 with c | c
            · have k := mpp (x := -b) (y := -d) (by grind) dn
              grind
            · have k := mpp (x := b - 1) (y := -d) (by grind) dn
              grind
          · have k := mpp (x := a - 1) (y := -d) (by grind) dn
            grind
      · have k := mnn (x := -a) (y := -d) (by grind) (by grind)
        grind
/-- FACT F: a point from which a side wall's open point is clear is in front of it (or in its plane) -/
theorem front (R : RoomOk r) {w : Nat} (hw : w < r.n) {p q : Pt} (hp : r.inWall w p = true) (hc : r.clear q p = true) : ¬ left (r.line w).1 (r.line w).2 q < 0 := by
  intro hq
  have P := pol_of R
  unfold Room.inWall at hp
  rw [if_pos hw] at hp
  simp only [Bool.and_eq_true, Bool.not_eq_true'] at hp
  obtain ⟨h1, h2, -, -⟩ := hp
  obtain ⟨s, s0, s1, ex, ey⟩ := onLine_inv (u := (r.line w).1) (v := (r.line w).2) h1 (line_nd R w)
  unfold isEnd at h2
  simp only [Bool.or_eq_false_iff, Bool.and_eq_false_iff, beq_eq_false_iff_ne] at h2
  have s0' : 0 < s := by
    by_cases z : s = 0
    · subst z
      grind
    · grind
  have s1' : s < 1 := by
    by_cases z : s = 1
    · subst z
      grind
    · grind
  have pl : left (r.line w).1 (r.line w).2 p = 0 := by
    unfold left
    rw [ex, ey]
    grind
  have ne : p.x - q.x ≠ 0 ∨ p.y - q.y ≠ 0 := by
    by_cases z : p.x - q.x = 0
    · by_cases z2 : p.y - q.y = 0
      · exfalso
        have a1 : q.x = p.x := by grind
        have a2 : q.y = p.y := by grind
        have e : left (r.line w).1 (r.line w).2 q = left (r.line w).1 (r.line w).2 p := by
          unfold left
          rw [a1, a2]
        rw [e, pl] at hq
        exact absurd hq (Rat.lt_irrefl)
      · exact .inr z2
    · exact .inl z
  unfold Room.clear at hc
  simp only [Bool.or_eq_true, beq_iff_eq, Bool.and_eq_true, Bool.not_eq_true', List.any_eq_false] at hc
  rcases hc with e | ⟨hc1, hc2⟩
  · subst e
    rw [pl] at hq
    exact absurd hq (Rat.lt_irrefl)
  · have tf : ∀ j, j < r.n → touches q p (r.line j) = false := fun j hj => by
      have := hc1 (r.line j) (List.mem_map.mpr ⟨j, List.mem_range.mpr hj, rfl⟩)
      simpa using this
    have m1 : lf (rx (cX r) w) (rx (cY r) w) (rx (cX r) (w + 1)) (rx (cY r) (w + 1)) (q.x + 1 / 2 * (p.x - q.x)) (q.y + 1 / 2 * (p.y - q.y)) < 0 := by
      have e : lf (rx (cX r) w) (rx (cY r) w) (rx (cX r) (w + 1)) (rx (cY r) (w + 1)) (q.x + 1 / 2 * (p.x - q.x)) (q.y + 1 / 2 * (p.y - q.y)) = (left (r.line w).1 (r.line w).2 q + left (r.line w).1 (r.line w).2 p) / 2 := by
        show ((r.line w).2.x - (r.line w).1.x) * (q.y + 1 / 2 * (p.y - q.y) - (r.line w).1.y) - ((r.line w).2.y - (r.line w).1.y) * (q.x + 1 / 2 * (p.x - q.x) - (r.line w).1.x) = _
        unfold left
        grind
      rw [e, pl]
      grind
    have exy : p.x = sx (rx (cX r)) w s ∧ p.y = sx (rx (cY r)) w s := ⟨ex, ey⟩
    have key := par_right P hw s0' s1' m1 fun j hj nj => by
      unfold DisL
      rw [← exy.1, ← exy.2]
      refine dis_touch (u := (r.line j).1) (v := (r.line j).2) (tf j hj) (fun t t0 t1 z => ?_) ne
      rw [exy.1, exy.2] at z
      exact apart_pts P (nocom_room R) hw hj (Ne.symm nj) s0' s1' t0 t1 z
    rw [rho_room R] at key
    unfold Room.inside Room.within at hc2
    simp only [Bool.and_eq_true] at hc2
    have a := hc2.1.2
    rw [within_par] at a
    have : (onWay q p (1 / 2)).x = q.x + 1 / 2 * (p.x - q.x) := rfl
    have k2 : par r.n (rx (cX r)) (rx (cY r)) (onWay q p (1 / 2)).x (onWay q p (1 / 2)).y = false := key
    rw [k2] at a
    cases a
end
end Rt
namespace Rt
open Eh
/-! # The mirror: what each def computes, in whole numbers -/
structure Q4 where
  x : Int
  y : Int
  z : Int
  w : Int
  deriving DecidableEq
def iCross (a b : Int × Int) : Int := a.1 * b.2 - a.2 * b.1
def iDir (r : Room) (i : Nat) : Int × Int := ((r.corner (i + 1)).x - (r.corner i).x, (r.corner (i + 1)).y - (r.corner i).y)
def iOff (r : Room) (i : Nat) (q : Q4) : Int × Int := (q.x - (r.corner i).x * q.w, q.y - (r.corner i).y * q.w)
def iBeside (r : Room) (i : Nat) (q : Q4) : Int := iCross (iDir r i) (iOff r i q)
def iSide (r : Room) (w : Nat) (q : Q4) : Int := if w = r.n then q.z else if r.n < w then r.h * q.w - q.z else iBeside r w q
def iSize (r : Room) (i : Nat) : Int := (iDir r i).1 * (iDir r i).1 + (iDir r i).2 * (iDir r i).2
def iMir (r : Room) (w : Nat) (q : Q4) : Q4 := if w = r.n then ⟨q.x, q.y, -q.z, 1⟩ else if r.n < w then ⟨q.x, q.y, 2 * r.h - q.z, 1⟩ else
  ⟨q.x - 2 * iBeside r w q * -(iDir r w).2 / (-(iDir r w).2 * -(iDir r w).2 + (iDir r w).1 * (iDir r w).1), q.y - 2 * iBeside r w q * (iDir r w).1 / (-(iDir r w).2 * -(iDir r w).2 + (iDir r w).1 * (iDir r w).1), q.z, 1⟩
def iAlong (r : Room) (i : Nat) (q : Q4) : Int := (iDir r i).1 * (iOff r i q).1 + (iDir r i).2 * (iOff r i q).2
def iOn (r : Room) (i : Nat) (q : Q4) : Bool := decide (iBeside r i q = 0) && (decide (0 ≤ iAlong r i q) && decide (iAlong r i q ≤ iSize r i * q.w))
def iLow (r : Room) (i : Nat) (q : Q4) : Bool := decide (q.y < (r.corner i).y * q.w)
def iTurns (r : Room) (i : Nat) (q : Q4) : Bool := (!decide (iLow r i q = iLow r (i + 1) q)) && decide (decide (0 < iBeside r i q) = iLow r (i + 1) q)
def iWithin (r : Room) (q : Q4) : Bool := !((List.range r.n).any fun i => iOn r i q) && decide (((List.range r.n).filter fun i => iTurns r i q).length % 2 = 1)
def iHeight (r : Room) (q : Q4) : Bool := decide (0 < q.z) && decide (q.z < r.h * q.w)
def iInside (r : Room) (q : Q4) : Bool := iHeight r q && iWithin r q
def iOpen (r : Room) (w : Nat) (q : Q4) : Bool := if r.n ≤ w then iWithin r q else iHeight r q && (decide (0 < iAlong r w q) && decide (iAlong r w q < iSize r w * q.w))
def iHasDir (d : Int × Int) : Bool := !(decide (d.1 = 0) && decide (d.2 = 0)) && (decide (d.1 = 0) || (decide (d.2 = 0) || decide (d.1.natAbs = d.2.natAbs)))
def cp (r : Room) (i : Nat) : Q4 := ⟨(r.corner i).x, (r.corner i).y, 0, 1⟩
def iSign (n : Int) : Int := if 0 < n then 1 else if n < 0 then -1 else 0
def iMeet (r : Room) (i j : Nat) : Bool := ((iOn r i (cp r j) || iOn r i (cp r (j + 1))) || (iOn r j (cp r i) || iOn r j (cp r (i + 1)))) ||
  (decide (iSign (iBeside r i (cp r j)) * iSign (iBeside r i (cp r (j + 1))) < 0) && decide (iSign (iBeside r j (cp r i)) * iSign (iBeside r j (cp r (i + 1))) < 0))
def iApart (r : Room) (i j : Nat) : Bool := let d := ((i : Int) - (j : Int)) % (r.n : Int)
  !(decide (d = 0) || (decide (d = 1) || decide (d = (r.n : Int) - 1)))
def iArea (r : Room) : Int := ((List.range r.n).map fun i => iCross ((r.corner i).x, (r.corner i).y) ((r.corner (i + 1)).x, (r.corner (i + 1)).y)).sum
/-- a point in lowest terms -/
def iPoint (x y z w : Int) : Q4 := let g : Int := Int.gcd (Int.gcd x y) (Int.gcd z w)
  ⟨x / g, y / g, z / g, w / g⟩
def iBetween (p q : Q4) : Q4 := iPoint (p.x * q.w + q.x * p.w) (p.y * q.w + q.y * p.w) (p.z * q.w + q.z * p.w) (2 * p.w * q.w)
def iWay (p q : Q4) : Int × Int := (q.x * p.w - p.x * q.w, q.y * p.w - p.y * q.w)
def iFrom (r : Room) (p : Q4) (i : Nat) : Int × Int := ((r.corner i).x * p.w - p.x, (r.corner i).y * p.w - p.y)
def iAhead (a b : Int × Int) : Int := a.1 * b.1 + a.2 * b.2
def iBlockAlong (r : Room) (i : Nat) (p q : Q4) : Bool := let way := iWay p q
  let a := iAhead way (iFrom r p i)
  let b := iAhead way (iFrom r p (i + 1))
  decide (0 < max a b) && decide (min a b * q.w < iAhead way way)
def iBlocked (r : Room) (i : Nat) (p q : Q4) : Bool := let first := iBeside r i p
  let second := iBeside r i q
  if first = 0 ∧ second = 0 then iBlockAlong r i p q
  else if decide (0 < first) = decide (0 < second) ∨ first = 0 ∨ second = 0 then false
  else let left := iCross (iWay p q) (iFrom r p i)
    let right := iCross (iWay p q) (iFrom r p (i + 1))
    (decide (0 ≤ left) && decide (right ≤ 0)) || (decide (left ≤ 0) && decide (0 ≤ right))
def iClear (r : Room) (p q : Q4) : Bool := if p = q then true else if iInside r (iBetween p q) = false then false else if iWay p q = (0, 0) then true else !((List.range r.n).any fun i => iBlocked r i p q)
def iMet (r : Room) (w : Nat) (p i : Q4) : Q4 := let near := iSide r w p
  let far := -iSide r w i
  iPoint (p.x * far + i.x * near) (p.y * far + i.y * near) (p.z * far + i.z * near) (p.w * far + near)
/-- backwards from a point: the walls and images with the last first -/
def iBack (r : Room) (s : Q4) : Q4 → List (Nat × Q4) → Bool
  | p, [] => iClear r s p
  | p, (w, i) :: l => if iSide r w p ≤ 0 then false else if iOpen r w (iMet r w p i) = false ∨ iClear r (iMet r w p i) p = false then false else iBack r s (iMet r w p i) l
def iIsPath (r : Room) (s : Q4) (walls : List Nat) (images : List Q4) (e : Q4) : Bool := iBack r s e (List.zip walls images).reverse
def iSquare (p q : Q4) : Int := (p.x - q.x) * (p.x - q.x) + ((p.y - q.y) * (p.y - q.y) + (p.z - q.z) * (p.z - q.z))
def lastOr (s : Q4) (l : List Q4) : Q4 := l.getLastD s
abbrev Rowi : Type := List Nat × List Q4
def iLonger (r : Room) (s : Q4) (row : Rowi) : List Rowi := ((List.range (r.n + 2)).filter fun w => decide (0 < iSide r w (lastOr s row.2))).map fun w => (row.1 ++ [w], row.2 ++ [iMir r w (lastOr s row.2)])
/-- the rows of so many turns -/
def iRows (r : Room) (s : Q4) : Nat → List Rowi
  | 0 => [([], [])]
  | k + 1 => (iRows r s k).flatMap (iLonger r s)
structure PathI where
  square : Int
  walls : List Nat
def iFound (r : Room) (s e : Q4) (rows : List Rowi) : List PathI := (rows.filter fun row => iIsPath r s row.1 row.2 e).map fun row => ⟨iSquare (lastOr s row.2) e, row.1⟩
def iPaths (r : Room) (s e : Q4) (most : Nat) : List PathI := (List.range (most + 1)).flatMap fun k => iFound r s e (iRows r s k)
end Rt
namespace Rt
open Eh
/-! # Mirroring, in whole numbers -/
def RDir (r : Room) : Prop := ∀ i, ¬((iDir r i).1 = 0 ∧ (iDir r i).2 = 0) ∧ ((iDir r i).1 = 0 ∨ (iDir r i).2 = 0 ∨ (iDir r i).1 = (iDir r i).2 ∨ (iDir r i).1 = -(iDir r i).2)
theorem sq_pos {a : Int} (h : a ≠ 0) : 0 < a * a := by
  rcases Int.lt_or_gt_of_ne h with h | h
  · exact Int.mul_pos_of_neg_of_neg h h
  · exact Int.mul_pos h h
theorem sq_nn (a : Int) : 0 ≤ a * a := by
  by_cases h : a = 0
  · subst h; decide
  · exact Int.le_of_lt (sq_pos h)
theorem size_pos {r : Room} (hd : RDir r) (i : Nat) : 0 < -(iDir r i).2 * -(iDir r i).2 + (iDir r i).1 * (iDir r i).1 := by
  rw [Int.neg_mul_neg]
  have h := (hd i).1
  by_cases z : (iDir r i).1 = 0
  · have := sq_pos (a := (iDir r i).2) fun q => h ⟨z, q⟩
    have := sq_nn (iDir r i).1
    omega
  · have := sq_pos z
    have := sq_nn (iDir r i).2
    omega
theorem div_of {a b k : Int} (hb : b ≠ 0) (e : a = k * b) : a / b = k := by rw [e]; exact Int.mul_ediv_cancel k hb
inductive MirCase (r : Room) (w : Nat) (p : Q4) : Prop
  | v (a : (iDir r w).1 = 0) (b : (iDir r w).2 ≠ 0) (e : iMir r w p = ⟨2 * (r.corner w).x - p.x, p.y, p.z, 1⟩)
  | h (a : (iDir r w).1 ≠ 0) (b : (iDir r w).2 = 0) (e : iMir r w p = ⟨p.x, 2 * (r.corner w).y - p.y, p.z, 1⟩)
  | u (a : (iDir r w).1 ≠ 0) (b : (iDir r w).1 = (iDir r w).2) (e : iMir r w p = ⟨p.y - ((r.corner w).y - (r.corner w).x), p.x + ((r.corner w).y - (r.corner w).x), p.z, 1⟩)
  | d (a : (iDir r w).1 ≠ 0) (b : (iDir r w).1 = -(iDir r w).2) (e : iMir r w p = ⟨(r.corner w).x + (r.corner w).y - p.y, (r.corner w).x + (r.corner w).y - p.x, p.z, 1⟩)
theorem mir_case {r : Room} (hd : RDir r) {w : Nat} {p : Q4} (hw : w < r.n) (p1 : p.w = 1) : MirCase r w p := by
  have sp := size_pos hd w
  obtain ⟨h0, h1⟩ := hd w
  have e0 : iMir r w p = ⟨p.x - 2 * iBeside r w p * -(iDir r w).2 / (-(iDir r w).2 * -(iDir r w).2 + (iDir r w).1 * (iDir r w).1), p.y - 2 * iBeside r w p * (iDir r w).1 / (-(iDir r w).2 * -(iDir r w).2 + (iDir r w).1 * (iDir r w).1), p.z, 1⟩ := by
    unfold iMir
    rw [if_neg (by omega), if_neg (by omega)]
  have eb : iBeside r w p = (iDir r w).1 * (p.y - (r.corner w).y) - (iDir r w).2 * (p.x - (r.corner w).x) := by
    unfold iBeside iCross iOff
    rw [p1, Int.mul_one, Int.mul_one]
  rw [eb] at e0
  obtain ⟨d1, g1⟩ : ∃ d, (iDir r w).1 = d := ⟨_, rfl⟩
  obtain ⟨d2, g2⟩ : ∃ d, (iDir r w).2 = d := ⟨_, rfl⟩
  rw [g1, g2] at e0 sp h1
  rw [g1, g2] at h0
  by_cases z1 : d1 = 0
  · have z2 : d2 ≠ 0 := fun q => h0 ⟨z1, q⟩
    refine .v (g1.trans z1) (g2 ▸ z2) (e0.trans ?_)
    rw [div_of (k := 2 * (p.x - (r.corner w).x)) (by omega) (by subst z1; grind), div_of (k := 0) (by omega) (by subst z1; grind)]
    congr 1
    · omega
    · omega
  · by_cases z2 : d2 = 0
    · refine .h (g1 ▸ z1) (g2.trans z2) (e0.trans ?_)
      rw [div_of (k := 0) (by omega) (by subst z2; grind), div_of (k := 2 * (p.y - (r.corner w).y)) (by omega) (by subst z2; grind)]
      congr 1
      · omega
      · omega
    · by_cases z3 : d1 = d2
      · refine .u (g1 ▸ z1) (g1.trans (z3.trans g2.symm)) (e0.trans ?_)
        rw [div_of (k := (p.x - (r.corner w).x) - (p.y - (r.corner w).y)) (by omega) (by subst z3; grind), div_of (k := (p.y - (r.corner w).y) - (p.x - (r.corner w).x)) (by omega) (by subst z3; grind)]
        congr 1
        · omega
        · omega
      · have z4 : d1 = -d2 := by rcases h1 with h | h | h | h <;> first | exact absurd h z1 | exact absurd h z2 | exact absurd h z3 | exact h
        refine .d (g1 ▸ z1) (g1.trans (z4.trans (congrArg (fun x => -x) g2.symm))) (e0.trans ?_)
        rw [div_of (k := (p.x - (r.corner w).x) + (p.y - (r.corner w).y)) (by omega) (by subst z4; grind), div_of (k := (p.x - (r.corner w).x) + (p.y - (r.corner w).y)) (by omega) (by subst z4; grind)]
        congr 1
        · omega
        · omega
theorem mir_w {r : Room} {w : Nat} {p : Q4} : (iMir r w p).w = 1 := by
  unfold iMir
  split
  · rfl
  · split <;> rfl
theorem beside_1 {r : Room} {w : Nat} {p : Q4} (p1 : p.w = 1) : iBeside r w p = (iDir r w).1 * (p.y - (r.corner w).y) - (iDir r w).2 * (p.x - (r.corner w).x) := by
  unfold iBeside iCross iOff
  rw [p1, Int.mul_one, Int.mul_one]
theorem mir_side {r : Room} (hd : RDir r) {w : Nat} {p : Q4} (p1 : p.w = 1) : iSide r w (iMir r w p) = -iSide r w p := by
  by_cases h1 : w = r.n
  · unfold iSide iMir
    simp only [h1, if_true]
  · by_cases h2 : r.n < w
    · unfold iSide iMir
      simp only [h1, h2, if_true, if_false, p1]
      omega
    · have hw : w < r.n := by omega
      have e1 : iSide r w p = iBeside r w p := by unfold iSide; rw [if_neg h1, if_neg h2]
      have e2 : iSide r w (iMir r w p) = iBeside r w (iMir r w p) := by unfold iSide; rw [if_neg h1, if_neg h2]
      rw [e1, e2, beside_1 p1, beside_1 mir_w]
      rcases mir_case hd hw p1 with ⟨a, b, e⟩ | ⟨a, b, e⟩ | ⟨a, b, e⟩ | ⟨a, b, e⟩ <;> rw [e] <;> dsimp only
      · rw [a]; grind
      · rw [b]; grind
      · rw [b]; grind
      · rw [b]; grind
end Rt
namespace Rt
open Eh
/-! # The room that a list tells; its faults, in whole numbers -/
def cornAt (told : List Int) (i : Nat) : Corner := ⟨told.getD (3 + 3 * i) 0, told.getD (4 + 3 * i) 0, stuffOf (told.getD (5 + 3 * i) 0)⟩
def roomT (told : List Int) (n : Nat) : Room := ⟨told.getD 0 0, stuffOf (told.getD 1 0), stuffOf (told.getD 2 0), (List.range n).map (cornAt told)⟩
theorem roomT_n {told : List Int} {n : Nat} : (roomT told n).n = n := by unfold roomT Room.n; simp
theorem roomT_corner {told : List Int} {n i : Nat} (h : i < n) : (roomT told n).corner i = cornAt told i := by
  unfold Room.corner
  rw [roomT_n, Nat.mod_eq_of_lt h]
  unfold roomT
  rw [List.getD_eq_getElem?_getD, List.getElem?_map, List.getElem?_range h]
  rfl
theorem stuff_back {z : Int} (h : 0 ≤ z) : ((stuffOf z : Nat) : Int) = z := by
  unfold stuffOf
  rw [if_neg (by omega)]
  omega
/-- the first place where it isn't so -/
def firstBad (ok : Nat → Bool) (n : Nat) : Option Nat := (List.range n).find? fun i => !ok i
theorem firstBad_none {ok : Nat → Bool} {n : Nat} (h : ∀ i, i < n → ok i = true) : firstBad ok n = none := by
  unfold firstBad
  rw [List.find?_eq_none]
  intro i hi
  rw [h i (List.mem_range.mp hi)]
  decide
theorem firstBad_some {ok : Nat → Bool} {n i : Nat} (hi : i < n) (h : ∀ j, j < i → ok j = true) (b : ok i = false) : firstBad ok n = some i := by
  unfold firstBad
  rw [List.find?_eq_some_iff_append]
  refine ⟨by rw [b]; rfl, List.range i, (List.range (n - i - 1)).map (fun j => i + 1 + j), ?_, fun j hj => ?_⟩
  · have e : n = i + (1 + (n - i - 1)) := by omega
    conv => lhs; rw [e]
    rw [List.range_add, List.range_add, List.map_append]
    have e1 : (List.range 1).map (fun x => i + x) = [i] := rfl
    rw [e1, List.map_map]
    congr 1
    show i :: _ = i :: _
    congr 1
    refine List.map_congr_left fun j _ => ?_
    show i + (1 + j) = i + 1 + j
    omega
  · rw [h j (List.mem_range.mp hj)]
    decide
def tellN (told : List Int) : Nat := (told.length - 3) / 3
def okShape (told : List Int) : Bool := decide (3 ≤ told.length) && (decide (told.length % 3 = 0) && (decide (3 ≤ tellN told) && decide (tellN told ≤ 64)))
def okHead (told : List Int) : Bool := decide (1 ≤ told.getD 0 0) && (decide (told.getD 0 0 ≤ 4095) && ((decide (0 ≤ told.getD 1 0) && decide (told.getD 1 0 ≤ 7)) && (decide (0 ≤ told.getD 2 0) && decide (told.getD 2 0 ≤ 7))))
def ok3 (told : List Int) (i : Nat) : Bool := decide (0 ≤ told.getD (3 + 3 * i) 0) && (decide (told.getD (3 + 3 * i) 0 ≤ 4095) && (decide (0 ≤ told.getD (4 + 3 * i) 0) && (decide (told.getD (4 + 3 * i) 0 ≤ 4095) && (decide (0 ≤ told.getD (5 + 3 * i) 0) && decide (told.getD (5 + 3 * i) 0 ≤ 7)))))
def ok4 (r : Room) (i : Nat) : Bool := iHasDir (iDir r i)
def ok5 (r : Room) (n : Nat) (i : Nat) : Bool := !decide (iCross (iDir r i) (iDir r ((i + 1) % n)) = 0)
def ok6 (r : Room) (n : Nat) (i : Nat) : Bool := !((List.range n).any fun j => iApart r i j && iMeet r i j)
/-- a list's fault, the first: its rule, its wall -/
def iFault (told : List Int) : Option (Nat × Nat) :=
  if okShape told = false then some (1, 0) else if okHead told = false then some (2, 0) else
  match firstBad (ok3 told) (tellN told) with
  | some i => some (3, i)
  | none => match firstBad (ok4 (roomT told (tellN told))) (tellN told) with
    | some i => some (4, i)
    | none => match firstBad (ok5 (roomT told (tellN told)) (tellN told)) (tellN told) with
      | some i => some (5, i)
      | none => match firstBad (ok6 (roomT told (tellN told)) (tellN told)) (tellN told) with
        | some i => some (6, i)
        | none => if iArea (roomT told (tellN told)) ≤ 0 then some (7, 0) else none
section
variable {told : List Int} {i : Nat}
theorem fault1 (h : okShape told = false) : iFault told = some (1, 0) := by unfold iFault; rw [if_pos h]
theorem fault2 (h1 : okShape told = true) (h : okHead told = false) : iFault told = some (2, 0) := by unfold iFault; rw [if_neg (by rw [h1]; decide), if_pos h]
theorem fault3 (h1 : okShape told = true) (h2 : okHead told = true) (h : firstBad (ok3 told) (tellN told) = some i) : iFault told = some (3, i) := by unfold iFault; rw [if_neg (by rw [h1]; decide), if_neg (by rw [h2]; decide), h]
theorem fault4 (h1 : okShape told = true) (h2 : okHead told = true) (h3 : firstBad (ok3 told) (tellN told) = none) (h : firstBad (ok4 (roomT told (tellN told))) (tellN told) = some i) : iFault told = some (4, i) := by
  unfold iFault; rw [if_neg (by rw [h1]; decide), if_neg (by rw [h2]; decide), h3]; dsimp only; rw [h]
theorem fault5 (h1 : okShape told = true) (h2 : okHead told = true) (h3 : firstBad (ok3 told) (tellN told) = none) (h4 : firstBad (ok4 (roomT told (tellN told))) (tellN told) = none) (h : firstBad (ok5 (roomT told (tellN told)) (tellN told)) (tellN told) = some i) : iFault told = some (5, i) := by
  unfold iFault; rw [if_neg (by rw [h1]; decide), if_neg (by rw [h2]; decide), h3]; dsimp only; rw [h4]; dsimp only; rw [h]
theorem fault6 (h1 : okShape told = true) (h2 : okHead told = true) (h3 : firstBad (ok3 told) (tellN told) = none) (h4 : firstBad (ok4 (roomT told (tellN told))) (tellN told) = none) (h5 : firstBad (ok5 (roomT told (tellN told)) (tellN told)) (tellN told) = none)
    (h : firstBad (ok6 (roomT told (tellN told)) (tellN told)) (tellN told) = some i) : iFault told = some (6, i) := by
  unfold iFault; rw [if_neg (by rw [h1]; decide), if_neg (by rw [h2]; decide), h3]; dsimp only; rw [h4]; dsimp only; rw [h5]; dsimp only; rw [h]
theorem fault7 (h1 : okShape told = true) (h2 : okHead told = true) (h3 : firstBad (ok3 told) (tellN told) = none) (h4 : firstBad (ok4 (roomT told (tellN told))) (tellN told) = none) (h5 : firstBad (ok5 (roomT told (tellN told)) (tellN told)) (tellN told) = none)
    (h6 : firstBad (ok6 (roomT told (tellN told)) (tellN told)) (tellN told) = none) : iFault told = if iArea (roomT told (tellN told)) ≤ 0 then some (7, 0) else none := by
  unfold iFault; rw [if_neg (by rw [h1]; decide), if_neg (by rw [h2]; decide), h3]; dsimp only; rw [h4]; dsimp only; rw [h5]; dsimp only; rw [h6]
end
end Rt
namespace Rt
open Eh
/-! # Whole roots -/
theorem sq_mono {a b : Nat} (h : a ≤ b) : a * a ≤ b * b := Nat.mul_le_mul h h
theorem rootFrom_spec : ∀ (k n s : Nat), s * s ≤ n → n < (s + 2 ^ k) * (s + 2 ^ k) → rootFrom k n s * rootFrom k n s ≤ n ∧ n < (rootFrom k n s + 1) * (rootFrom k n s + 1)
  | 0, n, s, h1, h2 => ⟨h1, h2⟩
  | k + 1, n, s, h1, h2 => by
    unfold rootFrom
    by_cases c : (s + 2 ^ k) * (s + 2 ^ k) ≤ n
    · rw [if_pos c]
      refine rootFrom_spec k n _ c ?_
      rw [Nat.add_assoc, ← Nat.two_mul, Nat.mul_comm 2, ← Nat.pow_succ]
      exact h2
    · rw [if_neg c]
      exact rootFrom_spec k n s h1 (by omega)
theorem root_spec (n : Nat) : root n * root n ≤ n ∧ n < (root n + 1) * (root n + 1) := by
  unfold root
  refine rootFrom_spec _ n 0 (Nat.zero_le _) ?_
  rw [Nat.zero_add, ← Nat.pow_add]
  exact Nat.lt_of_lt_of_le (Nat.lt_log2_self (n := n)) (Nat.pow_le_pow_right (by decide) (by omega))
theorem root_uniq {n r : Nat} (h1 : r * r ≤ n) (h2 : n < (r + 1) * (r + 1)) : root n = r := by
  obtain ⟨g1, g2⟩ := root_spec n
  rcases Nat.lt_trichotomy (root n) r with h | h | h
  · have := sq_mono (show root n + 1 ≤ r by omega)
    omega
  · exact h
  · have := sq_mono (show r + 1 ≤ root n by omega)
    omega
theorem newton_ge {n r R : Nat} (h : r * r ≤ n) (hR : 0 < R) : r ≤ (R + n / R) / 2 := by
  rw [Nat.le_div_iff_mul_le (by decide)]
  refine Nat.le_of_not_lt fun c => ?_
  have h1 : n / R < r * 2 - R := by
    generalize n / R = q at *
    omega
  have h2 : n < (r * 2 - R) * R := (Nat.div_lt_iff_lt_mul hR).mp h1
  have h3 : R < r * 2 := by
    generalize n / R = q at *
    omega
  obtain ⟨t, ht⟩ : ∃ t, r * 2 = R + t := ⟨r * 2 - R, by omega⟩
  rw [show r * 2 - R = t by omega] at h2
  have h4 : (r * 2) * (r * 2) = (R + t) * (R + t) := by rw [ht]
  have h5 : 4 * (t * R) ≤ (R + t) * (R + t) := by
    rcases Nat.le_total t R with q | q
    · obtain ⟨d, rfl⟩ : ∃ d, R = t + d := ⟨R - t, by omega⟩
      have : (t + d + t) * (t + d + t) = 4 * (t * (t + d)) + d * d := by grind
      omega
    · obtain ⟨d, rfl⟩ : ∃ d, t = R + d := ⟨t - R, by omega⟩
      have : (R + (R + d)) * (R + (R + d)) = 4 * ((R + d) * R) + d * d := by grind
      omega
  have h6 : (r * 2) * (r * 2) = 4 * (r * r) := by grind
  omega
theorem newton_lt {n r R : Nat} (h : n < (r + 1) * (r + 1)) (hr : r < R) : (R + n / R) / 2 < R := by
  have h1 : n < R * R := Nat.lt_of_lt_of_le h (sq_mono hr)
  have h2 : n / R < R := (Nat.div_lt_iff_lt_mul (by omega)).mpr h1
  generalize n / R = q at *
  omega
/-- the whole number nearest to the root of a fraction -/
def iNear (top bottom : Nat) : Nat := (root (4 * top / bottom) + 1) / 2
def iDelay (square rate speed : Nat) : Nat := iNear (square * rate * rate) (speed * speed)
theorem root_le {n b : Nat} (h : n < 2 ^ (2 * b)) : root n < 2 ^ b := by
  refine Nat.lt_of_not_le fun c => ?_
  have h1 := sq_mono c
  rw [← Nat.pow_add, ← Nat.two_mul] at h1
  have := (root_spec n).1
  omega
def iBook (book : List Int) : Int := if book.length ≠ 36 then (book.length : Nat) else match book.findIdx? fun x => decide (32768 < x) with
  | some i => (i : Nat)
  | none => -1
def stuffN (r : Room) (w : Nat) : Nat := if w < r.n then (r.corners.getD w ⟨0, 0, 0⟩).stuff else if w = r.n then r.floor_ else r.ceiling
def topW (r : Room) (book : List Nat) (band : Nat) (walls : List Nat) : Nat := walls.foldl (fun t w => t * book.getD (stuffN r w * 4 + band) 0) 1
def iFar (square : Nat) : Nat := root (max 1 square) / 1024
/-- a path's gain -/
def iGain (r : Room) (book : List Nat) (band square : Nat) (walls : List Nat) : Nat :=
  let top := topW r book band walls * book.getD (32 + band) 0 ^ iFar square
  iNear (top * top * 2 ^ 64) (max 1 square * 2 ^ (2 * (15 * (walls.length + iFar square))))
theorem topW_snoc {r : Room} {book : List Nat} {band w : Nat} {l : List Nat} : topW r book band (l ++ [w]) = topW r book band l * book.getD (stuffN r w * 4 + band) 0 := by
  unfold topW
  rw [List.foldl_append]
  rfl
end Rt
namespace Rt
open Eh
/-! # Taps of pairs of a delay and a gain -/
def sumG (ps : List (Nat × Nat)) (d : Nat) : Nat := ((ps.filter fun p => p.1 = d).map (·.2)).sum
def keysN (ps : List (Nat × Nat)) : List Nat := ps.foldl (fun ks p => if p.1 ∈ ks then ks else ks ++ [p.1]) []
theorem sumG_snoc {ps : List (Nat × Nat)} {p : Nat × Nat} {d : Nat} : sumG (ps ++ [p]) d = sumG ps d + if p.1 = d then p.2 else 0 := by
  unfold sumG
  rw [List.filter_append, List.map_append, List.sum_append]
  by_cases h : p.1 = d
  · rw [if_pos h, List.filter_cons_of_pos (by simpa using h)]
    simp
  · rw [if_neg h, List.filter_cons_of_neg (by simpa using h)]
    simp
theorem keysN_snoc {ps : List (Nat × Nat)} {p : Nat × Nat} : keysN (ps ++ [p]) = if p.1 ∈ keysN ps then keysN ps else keysN ps ++ [p.1] := by
  unfold keysN
  rw [List.foldl_append]
  rfl
theorem snoc_ind {α : Type} {P : List α → Prop} (h0 : P []) (h1 : ∀ l x, P l → P (l ++ [x])) (l : List α) : P l := by
  have key : ∀ m : List α, P m.reverse := by
    intro m
    induction m with
    | nil => exact h0
    | cons x m ih =>
      rw [List.reverse_cons]
      exact h1 _ _ ih
  have := key l.reverse
  rw [List.reverse_reverse] at this
  exact this
theorem keysN_nodup (ps : List (Nat × Nat)) : (keysN ps).Nodup := by
  refine snoc_ind (P := fun ps => (keysN ps).Nodup) List.nodup_nil (fun l x ih => ?_) ps
  rw [keysN_snoc]
  split
  · exact ih
  · rename_i h
    rw [List.nodup_append]
    refine ⟨ih, by simp, fun a ha b hb => ?_⟩
    rw [List.mem_singleton.mp hb]
    exact fun e => h (e ▸ ha)
theorem mem_keysN (ps : List (Nat × Nat)) (d : Nat) : d ∈ keysN ps ↔ ∃ p ∈ ps, p.1 = d := by
  refine snoc_ind (P := fun ps => d ∈ keysN ps ↔ ∃ p ∈ ps, p.1 = d) (by simp [keysN]) (fun l x ih => ?_) ps
  rw [keysN_snoc]
  constructor
  · intro h
    split at h
    · obtain ⟨p, hp, e⟩ := ih.mp h
      exact ⟨p, List.mem_append_left _ hp, e⟩
    · rcases List.mem_append.mp h with h | h
      · obtain ⟨p, hp, e⟩ := ih.mp h
        exact ⟨p, List.mem_append_left _ hp, e⟩
      · exact ⟨x, by simp, (List.mem_singleton.mp h).symm⟩
  · rintro ⟨p, hp, e⟩
    rcases List.mem_append.mp hp with hp | hp
    · have := ih.mpr ⟨p, hp, e⟩
      split
      · exact this
      · exact List.mem_append_left _ this
    · rw [List.mem_singleton.mp hp] at e
      split
      · rename_i h
        rw [← e]
        exact h
      · rw [← e]
        simp
theorem sumG_none {ps : List (Nat × Nat)} {d : Nat} (h : d ∉ keysN ps) : sumG ps d = 0 := by
  unfold sumG
  rw [List.filter_eq_nil_iff.mpr fun p hp z => h ((mem_keysN ps d).mpr ⟨p, hp, by simpa using z⟩)]
  rfl
/-- a list that rises by its firsts is told by its members -/
theorem rise_ext : ∀ {A B : List (Nat × Int)}, A.Pairwise (fun p q => p.1 < q.1) → B.Pairwise (fun p q => p.1 < q.1) → (∀ p, p ∈ A ↔ p ∈ B) → A = B
  | [], [], _, _, _ => rfl
  | [], b :: B, _, _, h => absurd ((h b).mpr List.mem_cons_self) (by simp)
  | a :: A, [], _, _, h => absurd ((h a).mp List.mem_cons_self) (by simp)
  | a :: A, b :: B, ha, hb, h => by
    rw [List.pairwise_cons] at ha hb
    have e : a = b := by
      rcases List.mem_cons.mp ((h a).mp List.mem_cons_self) with q | q
      · exact q
      · rcases List.mem_cons.mp ((h b).mpr List.mem_cons_self) with q' | q'
        · exact q'.symm
        · have h1 := hb.1 a q
          have h2 := ha.1 b q'
          omega
    subst e
    congr 1
    refine rise_ext ha.2 hb.2 fun p => ⟨fun hp => ?_, fun hp => ?_⟩
    · rcases List.mem_cons.mp ((h p).mp (List.mem_cons_of_mem _ hp)) with q | q
      · have := ha.1 p hp
        rw [q] at this
        omega
      · exact q
    · rcases List.mem_cons.mp ((h p).mpr (List.mem_cons_of_mem _ hp)) with q | q
      · have := hb.1 p hp
        rw [q] at this
        omega
      · exact q
theorem addTap_rise {x : Tap} : ∀ {m : List Tap}, m.Pairwise (fun p q => p.delay < q.delay) → (addTap x m).Pairwise (fun p q => p.delay < q.delay) ∧ (∀ y, y ∈ addTap x m → y.delay = x.delay ∨ y ∈ m)
  | [], _ => ⟨by simp [addTap], fun y hy => by rw [List.mem_singleton.mp hy]; exact .inl rfl⟩
  | z :: m, h => by
    rw [List.pairwise_cons] at h
    unfold addTap
    by_cases c1 : x.delay < z.delay
    · rw [if_pos c1]
      refine ⟨?_, fun y hy => ?_⟩
      · rw [List.pairwise_cons, List.pairwise_cons]
        refine ⟨fun y hy => ?_, h⟩
        rcases List.mem_cons.mp hy with q | q
        · rw [q]; exact c1
        · exact Nat.lt_trans c1 (h.1 y q)
      · rcases List.mem_cons.mp hy with q | q
        · rw [q]; exact .inl rfl
        · exact .inr q
    · rw [if_neg c1]
      by_cases c2 : x.delay = z.delay
      · rw [if_pos c2]
        refine ⟨?_, fun y hy => ?_⟩
        · rw [List.pairwise_cons]
          exact ⟨h.1, h.2⟩
        · rcases List.mem_cons.mp hy with q | q
          · rw [q]; exact .inl c2.symm
          · exact .inr (List.mem_cons_of_mem _ q)
      · rw [if_neg c2]
        obtain ⟨i1, i2⟩ := addTap_rise (x := x) h.2
        refine ⟨?_, fun y hy => ?_⟩
        · rw [List.pairwise_cons]
          refine ⟨fun y hy => ?_, i1⟩
          rcases i2 y hy with q | q
          · rw [q]; omega
          · exact h.1 y q
        · rcases List.mem_cons.mp hy with q | q
          · rw [q]; exact .inr List.mem_cons_self
          · rcases i2 y q with q | q
            · exact .inl q
            · exact .inr (List.mem_cons_of_mem _ q)
/-- what stands where: others stay, the own place is added to -/
theorem addTap_mem {x : Tap} : ∀ {m : List Tap}, m.Pairwise (fun p q => p.delay < q.delay) → ∀ y, y ∈ addTap x m ↔ (y ∈ m ∧ y.delay ≠ x.delay) ∨ ((∀ z ∈ m, z.delay ≠ x.delay) ∧ y = x) ∨ ∃ z ∈ m, z.delay = x.delay ∧ y = ⟨z.delay, min LOUD (z.gain + x.gain)⟩
  | [], _, y => by simp [addTap]
  | z :: m, h, y => by
    rw [List.pairwise_cons] at h
    unfold addTap
    by_cases c1 : x.delay < z.delay
    · rw [if_pos c1]
      have no : ∀ t ∈ z :: m, t.delay ≠ x.delay := fun t ht => by
        rcases List.mem_cons.mp ht with q | q
        · rw [q]; omega
        · have := h.1 t q
          omega
      constructor
      · intro hy
        rcases List.mem_cons.mp hy with q | q
        · exact .inr (.inl ⟨no, q⟩)
        · exact .inl ⟨q, no y q⟩
      · rintro (⟨q, _⟩ | ⟨_, q⟩ | ⟨t, q, e, _⟩)
        · exact List.mem_cons_of_mem _ q
        · rw [q]; exact List.mem_cons_self
        · exact absurd e (no t q)
    · rw [if_neg c1]
      by_cases c2 : x.delay = z.delay
      · rw [if_pos c2]
        have no : ∀ t ∈ m, t.delay ≠ x.delay := fun t ht => by
          have := h.1 t ht
          omega
        constructor
        · intro hy
          rcases List.mem_cons.mp hy with q | q
          · exact .inr (.inr ⟨z, List.mem_cons_self, c2.symm, q⟩)
          · exact .inl ⟨List.mem_cons_of_mem _ q, no y q⟩
        · rintro (⟨q, ne⟩ | ⟨q, _⟩ | ⟨t, q, e, r⟩)
          · rcases List.mem_cons.mp q with q | q
            · rw [q] at ne; exact absurd c2.symm ne
            · exact List.mem_cons_of_mem _ q
          · exact absurd c2.symm (q z List.mem_cons_self)
          · rcases List.mem_cons.mp q with q | q
            · rw [r, q]; exact List.mem_cons_self
            · exact absurd e (no t q)
      · rw [if_neg c2]
        have ih := addTap_mem (x := x) h.2 y
        constructor
        · intro hy
          rcases List.mem_cons.mp hy with q | q
          · exact .inl ⟨by rw [q]; exact List.mem_cons_self, by rw [q]; exact fun e => c2 e.symm⟩
          · rcases ih.mp q with ⟨a, b⟩ | ⟨a, b⟩ | ⟨t, a, b⟩
            · exact .inl ⟨List.mem_cons_of_mem _ a, b⟩
            · refine .inr (.inl ⟨fun t ht => ?_, b⟩)
              rcases List.mem_cons.mp ht with q | q
              · rw [q]; exact fun e => c2 e.symm
              · exact a t q
            · exact .inr (.inr ⟨t, List.mem_cons_of_mem _ a, b⟩)
        · rintro (⟨q, ne⟩ | ⟨q, r⟩ | ⟨t, q, e, r⟩)
          · rcases List.mem_cons.mp q with q | q
            · rw [q]; exact List.mem_cons_self
            · exact List.mem_cons_of_mem _ (ih.mpr (.inl ⟨q, ne⟩))
          · exact List.mem_cons_of_mem _ (ih.mpr (.inr (.inl ⟨fun t ht => q t (List.mem_cons_of_mem _ ht), r⟩)))
          · rcases List.mem_cons.mp q with q | q
            · rw [q] at e; exact absurd e.symm c2
            · exact List.mem_cons_of_mem _ (ih.mpr (.inr (.inr ⟨t, q, e, r⟩)))
def mkTap (p : Nat × Nat) : Tap := ⟨p.1, (p.2 : Int)⟩
def gather (ps : List (Nat × Nat)) : List Tap := (ps.map mkTap).foldl (fun m x => addTap x m) []
theorem gather_snoc {ps : List (Nat × Nat)} {p : Nat × Nat} : gather (ps ++ [p]) = addTap (mkTap p) (gather ps) := by
  unfold gather
  rw [List.map_append, List.foldl_append]
  rfl
theorem gather_law (ps : List (Nat × Nat)) (h : ∀ p ∈ ps, (p.2 : Int) ≤ LOUD) : (gather ps).Pairwise (fun p q => p.delay < q.delay) ∧ ∀ y : Tap, y ∈ gather ps ↔ y.delay ∈ keysN ps ∧ y.gain = min LOUD (sumG ps y.delay : Nat) := by
  revert h
  refine snoc_ind (P := fun ps => (∀ p ∈ ps, (p.2 : Int) ≤ LOUD) → (gather ps).Pairwise (fun p q => p.delay < q.delay) ∧ ∀ y : Tap, y ∈ gather ps ↔ y.delay ∈ keysN ps ∧ y.gain = min LOUD (sumG ps y.delay : Nat)) (fun _ => ?_) (fun l x ih h => ?_) ps
  · exact ⟨by simp [gather], fun y => by simp [gather, keysN]⟩
  · obtain ⟨i1, i2⟩ := ih fun p hp => h p (List.mem_append_left _ hp)
    have hx := h x (by simp)
    rw [gather_snoc]
    refine ⟨(addTap_rise i1).1, fun y => ?_⟩
    rw [addTap_mem i1, keysN_snoc, sumG_snoc]
    have L : LOUD = 1099511627776 := by decide
    by_cases hk : x.1 ∈ keysN l
    · rw [if_pos hk]
      constructor
      · rintro (⟨a, b⟩ | ⟨a, b⟩ | ⟨z, a, b, c⟩)
        · have := (i2 y).mp a
          refine ⟨this.1, ?_⟩
          rw [if_neg (fun e => b e.symm), Nat.add_zero]
          exact this.2
        · exact absurd rfl (a ⟨x.1, min LOUD (sumG l x.1 : Nat)⟩ ((i2 _).mpr ⟨hk, rfl⟩))
        · have := (i2 z).mp a
          subst c
          refine ⟨this.1, ?_⟩
          show min LOUD (z.gain + (x.2 : Int)) = min LOUD ((sumG l z.delay + if x.1 = z.delay then x.2 else 0 : Nat) : Int)
          rw [this.2, if_pos (show x.1 = z.delay from b.symm)]
          omega
      · rintro ⟨a, b⟩
        by_cases e : x.1 = y.delay
        · rw [if_pos e] at b
          refine .inr (.inr ⟨⟨x.1, min LOUD (sumG l x.1 : Nat)⟩, (i2 _).mpr ⟨hk, rfl⟩, rfl, ?_⟩)
          cases y with
          | mk d g =>
            have e' : x.1 = d := e
            subst e'
            have b' : g = min LOUD ((sumG l x.1 + x.2 : Nat) : Int) := b
            subst b'
            show Tap.mk x.1 _ = Tap.mk x.1 (min LOUD (min LOUD (sumG l x.1 : Nat) + (x.2 : Int)))
            congr 1
            omega
        · rw [if_neg e, Nat.add_zero] at b
          exact .inl ⟨(i2 y).mpr ⟨a, b⟩, fun q => e q.symm⟩
    · rw [if_neg hk]
      have no : ∀ z ∈ gather l, z.delay ≠ x.1 := fun z hz e => hk (e ▸ ((i2 z).mp hz).1)
      constructor
      · rintro (⟨a, b⟩ | ⟨a, b⟩ | ⟨z, a, b, c⟩)
        · have := (i2 y).mp a
          refine ⟨List.mem_append_left _ this.1, ?_⟩
          rw [if_neg (fun e => b e.symm), Nat.add_zero]
          exact this.2
        · subst b
          refine ⟨List.mem_append_right _ (by simp [mkTap]), ?_⟩
          show (x.2 : Int) = min LOUD ((sumG l x.1 + if x.1 = x.1 then x.2 else 0 : Nat) : Int)
          rw [if_pos rfl, sumG_none hk]
          omega
        · exact absurd b (no z a)
      · rintro ⟨a, b⟩
        rcases List.mem_append.mp a with a | a
        · have ne : x.1 ≠ y.delay := fun e => hk (e ▸ a)
          rw [if_neg ne, Nat.add_zero] at b
          exact .inl ⟨(i2 y).mpr ⟨a, b⟩, fun q => ne q.symm⟩
        · have e := List.mem_singleton.mp a
          refine .inr (.inl ⟨fun z hz => no z hz, ?_⟩)
          cases y with
          | mk d g =>
            have e' : d = x.1 := e
            subst e'
            have b' : g = min LOUD ((sumG l x.1 + if x.1 = x.1 then x.2 else 0 : Nat) : Int) := b
            rw [if_pos rfl, sumG_none hk] at b'
            show Tap.mk x.1 g = Tap.mk x.1 (x.2 : Int)
            congr 1
            omega
/-- the keys in order, those of gain 0 left out, are the specification's taps -/
theorem taps_law {ps : List (Nat × Nat)} (h : ∀ p ∈ ps, (p.2 : Int) ≤ LOUD) {ys : List Nat} (hp : ys.Perm (keysN ps)) (hs : ys.Pairwise (· ≤ ·)) :
    ((ys.filter fun d => decide (sumG ps d ≠ 0)).map fun d => (d, min LOUD ((sumG ps d : Nat) : Int))) = (tapsOf (ps.map mkTap)).map fun t => (t.delay, t.gain) := by
  obtain ⟨g1, g2⟩ := gather_law ps h
  have nd : ys.Nodup := hp.nodup_iff.mpr (keysN_nodup ps)
  have lt : ys.Pairwise (· < ·) := (hs.and nd).imp fun {a b} q => Nat.lt_of_le_of_ne q.1 q.2
  have L : LOUD = 1099511627776 := by decide
  refine rise_ext ?_ ?_ fun p => ?_
  · rw [List.pairwise_map]
    exact (lt.filter _).imp fun {a b} q => q
  · rw [List.pairwise_map]
    exact (g1.filter _).imp fun {a b} q => q
  · constructor
    · intro hp'
      obtain ⟨d, hd, e⟩ := List.mem_map.mp hp'
      obtain ⟨hd1, hd2⟩ := List.mem_filter.mp hd
      have hd2 := of_decide_eq_true hd2
      subst e
      refine List.mem_map.mpr ⟨⟨d, min LOUD (sumG ps d : Nat)⟩, List.mem_filter.mpr ⟨(g2 _).mpr ⟨hp.mem_iff.mp hd1, rfl⟩, ?_⟩, rfl⟩
      simp only [bne_iff_ne, ne_eq]
      omega
    · intro hp'
      obtain ⟨t, ht, e⟩ := List.mem_map.mp hp'
      obtain ⟨ht1, ht2⟩ := List.mem_filter.mp ht
      obtain ⟨k1, k2⟩ := (g2 t).mp ht1
      subst e
      refine List.mem_map.mpr ⟨t.delay, List.mem_filter.mpr ⟨hp.mem_iff.mpr k1, ?_⟩, by rw [← k2]⟩
      refine decide_eq_true fun z => ?_
      rw [z] at k2
      have : t.gain = 0 := by omega
      rw [this] at ht2
      simp at ht2
end Rt
namespace Rt
open Eh
/-! # A line, in whole numbers -/
def iHeld (n : Int) : Int := max (-2147483648) (min 2147483647 n)
def iSample (s : List Int) (n : Int) : Int := if n < 0 ∨ (s.length : Int) ≤ n then 0 else s.getD n.toNat 0
def iTotal (taps : List (Nat × Int)) (s : List Int) (n : Int) : Int := (taps.map fun t => t.2 * iSample s (n - (t.1 : Int))).sum
def iOut (taps : List (Nat × Int)) (s : List Int) (n : Int) : Int := (2 * iTotal taps s n + 16777216) / 2 ^ 25
/-- what comes out of a row of samples, not held -/
def iOuts (taps : List (Nat × Int)) (s row : List Int) : List Int := (List.range row.length).map fun j => iOut taps (s ++ row.take (j + 1)) ((s.length + j : Nat) : Int)
def iMany (outs : List Int) : Nat := (outs.filter fun f => decide (iHeld f ≠ f)).length
def iRun (taps : List (Nat × Int)) (s row : List Int) : List Int := (iMany (iOuts taps s row) : Int) :: (iOuts taps s row).map iHeld
def iPast (s : List Int) (back : Int) : Int := iSample s ((s.length : Int) - 1 - back)
def iQuiet (taps : List (Nat × Int)) (s : List Int) : Bool := taps.all fun t => (List.range s.length).all fun at_ => decide (at_ + t.1 < s.length) || decide (iOut taps s ((at_ : Int) + (t.1 : Int)) = 0)
end Rt
namespace Rt
open Eh
/-! # The taps that a list tells -/
def tapAt (row : List Int) (k : Nat) : Nat × Int := ((row.getD (2 * k) 0).toNat, row.getD (2 * k + 1) 0)
def lastFar (row : List Int) (k : Nat) : Int := if k = 0 then -1 else row.getD (2 * (k - 1)) 0
def okTap (row : List Int) (k : Nat) : Bool := decide (row.getD (2 * k) 0 ≤ 262143) && ((!decide (row.getD (2 * k + 1) 0 = 0)) && (decide ((row.getD (2 * k + 1) 0).natAbs ≤ 1099511627776) && decide (lastFar row k < row.getD (2 * k) 0)))
def tapsT (row : List Int) : List (Nat × Int) := (List.range (row.length / 2)).map (tapAt row)
def evShape (row : List Int) : Bool := decide (row.length % 2 = 0) && (decide (row.length ≤ 8192) && (List.range (row.length / 2)).all fun k => decide (0 ≤ row.getD (2 * k) 0))
/-- a list's taps, or a refusal's numbers -/
def iRead (row : List Int) : Except (List Int) (List (Nat × Int)) := if evShape row = false then .error [-1] else match firstBad (okTap row) (row.length / 2) with
  | some k => .error [-7, (k : Int)]
  | none => .ok (tapsT row)
end Rt
namespace Rt
open Eh
/-! # Whole points against points -/
/-- q stands for p -/
structure At (q : Q4) (p : Pt) : Prop where
  w : 0 < q.w
  x : p.x * (q.w : Rat) = (q.x : Rat)
  y : p.y * (q.w : Rat) = (q.y : Rat)
  z : p.z * (q.w : Rat) = (q.z : Rat)
theorem At.wr {q : Q4} {p : Pt} (h : At q p) : (0 : Rat) < (q.w : Rat) := by
  have := h.w
  exact_mod_cast this
theorem c_eq (a b : Int) : ((a : Rat) = (b : Rat)) = (a = b) := propext Rat.intCast_inj
theorem mul_pos_iff {a w : Rat} (h : 0 < w) : (0 < a * w) = (0 < a) := by
  apply propext
  constructor
  · intro k; exact pos_of_mul k (by grind)
  · intro k; exact mpp k h
theorem mul_neg_iff {a w : Rat} (h : 0 < w) : (a * w < 0) = (a < 0) := by
  have := mul_pos_iff (a := -a) h
  apply propext
  constructor
  · intro k
    have : 0 < -a := by rw [← this]; grind
    grind
  · intro k
    have : 0 < -a * w := by rw [this]; grind
    grind
theorem mul_z_iff {a w : Rat} (h : 0 < w) : (a * w = 0) = (a = 0) := by
  apply propext
  constructor
  · intro k
    have h1 := mul_pos_iff (a := a) h
    have h2 := mul_neg_iff (a := a) h
    rw [k] at h1 h2
    by_cases z : 0 < a
    · rw [← h1] at z; exact absurd z Rat.lt_irrefl
    · by_cases z2 : a < 0
      · rw [← h2] at z2; exact absurd z2 Rat.lt_irrefl
      · grind
  · intro k; rw [k]; grind
section
variable {r : Room} {q : Q4} {p : Pt}
abbrev dxR (r : Room) (i : Nat) : Rat := ((r.corner (i + 1)).x : Rat) - ((r.corner i).x : Rat)
abbrev dyR (r : Room) (i : Nat) : Rat := ((r.corner (i + 1)).y : Rat) - ((r.corner i).y : Rat)
theorem dir_x (r : Room) (i : Nat) : ((iDir r i).1 : Rat) = dxR r i := by unfold iDir; push_cast; rfl
theorem dir_y (r : Room) (i : Nat) : ((iDir r i).2 : Rat) = dyR r i := by unfold iDir; push_cast; rfl
theorem left_eq (r : Room) (i : Nat) (p : Pt) : left (r.line i).1 (r.line i).2 p = dxR r i * (p.y - ((r.corner i).y : Rat)) - dyR r i * (p.x - ((r.corner i).x : Rat)) := rfl
theorem beside_at (h : At q p) (i : Nat) : ((iBeside r i q : Int) : Rat) = left (r.line i).1 (r.line i).2 p * (q.w : Rat) := by
  unfold iBeside iCross iOff
  push_cast
  rw [dir_x, dir_y, left_eq, ← h.x, ← h.y]
  grind
theorem along_at (h : At q p) (i : Nat) : ((iAlong r i q : Int) : Rat) = (dxR r i * (p.x - ((r.corner i).x : Rat)) + dyR r i * (p.y - ((r.corner i).y : Rat))) * (q.w : Rat) := by
  unfold iAlong iOff
  push_cast
  rw [dir_x, dir_y, ← h.x, ← h.y]
  grind
theorem size_at (r : Room) (i : Nat) : ((iSize r i : Int) : Rat) = dxR r i * dxR r i + dyR r i * dyR r i := by
  unfold iSize
  push_cast
  rw [dir_x, dir_y]
theorem i_pos (z : Int) {a w : Rat} (hw : 0 < w) (e : (z : Rat) = a * w) : (0 < z) = (0 < a) := by
  rw [← mul_pos_iff hw, ← e]
  exact propext (by exact_mod_cast Iff.rfl)
theorem i_neg (z : Int) {a w : Rat} (hw : 0 < w) (e : (z : Rat) = a * w) : (z < 0) = (a < 0) := by
  rw [← mul_neg_iff hw, ← e]
  exact propext (by exact_mod_cast Iff.rfl)
theorem i_zero (z : Int) {a w : Rat} (hw : 0 < w) (e : (z : Rat) = a * w) : (z = 0) = (a = 0) := by
  rw [← mul_z_iff hw, ← e]
  exact propext (by exact_mod_cast Iff.rfl)
theorem i_nn (z : Int) {a w : Rat} (hw : 0 < w) (e : (z : Rat) = a * w) : (0 ≤ z) = (0 ≤ a) := by
  have := i_neg z hw e
  apply propext
  rw [← Int.not_lt, this, Rat.not_lt]
theorem i_np (z : Int) {a w : Rat} (hw : 0 < w) (e : (z : Rat) = a * w) : (z ≤ 0) = (a ≤ 0) := by
  have := i_pos z hw e
  apply propext
  rw [← Int.not_lt, this, Rat.not_lt]
/-- on a line of one of the directions: how far along says it -/
theorem onLine_along {u v p : Pt} (ne : v.x - u.x ≠ 0 ∨ v.y - u.y ≠ 0) : onLine (u, v) p = (decide (left u v p = 0) && (decide (0 ≤ (v.x - u.x) * (p.x - u.x) + (v.y - u.y) * (p.y - u.y)) && decide ((v.x - u.x) * (p.x - u.x) + (v.y - u.y) * (p.y - u.y) ≤ (v.x - u.x) * (v.x - u.x) + (v.y - u.y) * (v.y - u.y)))) := by
  have sp : 0 < (v.x - u.x) * (v.x - u.x) + (v.y - u.y) * (v.y - u.y) := by
    have sq : ∀ a : Rat, a ≠ 0 → 0 < a * a := fun a h => by
      by_cases z : 0 < a
      · exact mpp z z
      · have := mpp (x := -a) (y := -a) (by grind) (by grind)
        grind
    have sn : ∀ a : Rat, 0 ≤ a * a := fun a => by
      by_cases z : a = 0
      · rw [z]; grind
      · have := sq a z; grind
    rcases ne with h | h
    · have := sq _ h
      have := sn (v.y - u.y)
      grind
    · have := sq _ h
      have := sn (v.x - u.x)
      grind
  rw [Bool.eq_iff_iff]
  constructor
  · intro h
    obtain ⟨t, t0, t1, ex, ey⟩ := onLine_inv h ne
    have e1 : left u v p = 0 := by unfold left; rw [ex, ey]; grind
    have e2 : (v.x - u.x) * (p.x - u.x) + (v.y - u.y) * (p.y - u.y) = t * ((v.x - u.x) * (v.x - u.x) + (v.y - u.y) * (v.y - u.y)) := by rw [ex, ey]; grind
    rw [e1, e2]
    have k1 := mnn t0 (show 0 ≤ (v.x - u.x) * (v.x - u.x) + (v.y - u.y) * (v.y - u.y) by grind)
    have k2 := mnn (x := 1 - t) (by grind) (show 0 ≤ (v.x - u.x) * (v.x - u.x) + (v.y - u.y) * (v.y - u.y) by grind)
    simp only [Bool.and_eq_true, decide_eq_true_eq]
    exact ⟨trivial, k1, by grind⟩
  · intro h
    simp only [Bool.and_eq_true, decide_eq_true_eq] at h
    obtain ⟨h1, h2, h3⟩ := h
    obtain ⟨ux, uy, u0⟩ := u
    obtain ⟨vx, vy, v0⟩ := v
    obtain ⟨px, py, p0⟩ := p
    dsimp only at *
    unfold left at h1
    dsimp only at h1
    obtain ⟨S, hS⟩ : ∃ S, (vx - ux) * (vx - ux) + (vy - uy) * (vy - uy) = S := ⟨_, rfl⟩
    obtain ⟨D, hD⟩ : ∃ D, (vx - ux) * (px - ux) + (vy - uy) * (py - uy) = D := ⟨_, rfl⟩
    rw [hS] at sp h3
    rw [hD] at h2 h3
    have S0 : S ≠ 0 := by grind
    have et : D / S * S = D := Rat.div_mul_cancel S0
    obtain ⟨t, ht⟩ : ∃ t, D / S = t := ⟨_, rfl⟩
    rw [ht] at et
    have t0 : 0 ≤ t := by
      by_cases z : 0 ≤ t
      · exact z
      · have := mpp (x := -t) (by grind) sp
        grind
    have t1 : t ≤ 1 := by
      by_cases z : t ≤ 1
      · exact z
      · have := mpp (x := t - 1) (by grind) sp
        grind
    have ex : (px - ux - t * (vx - ux)) * S = 0 := by grind
    have ey : (py - uy - t * (vy - uy)) * S = 0 := by grind
    rw [mul_z_iff sp] at ex ey
    have e1 : px = ux + t * (vx - ux) := by grind
    have e2 : py = uy + t * (vy - uy) := by grind
    rw [e1, e2]
    exact onLine_of ux uy vx vy t u0 v0 p0 t0 t1
theorem on_nd (h : At q p) (i : Nat) (nd : (r.line i).2.x - (r.line i).1.x ≠ 0 ∨ (r.line i).2.y - (r.line i).1.y ≠ 0) : iOn r i q = onLine (r.line i) p := by
  have e := onLine_along (u := (r.line i).1) (v := (r.line i).2) (p := p) nd
  refine Eq.trans ?_ e.symm
  unfold iOn
  have h1 := i_zero (iBeside r i q) h.wr (beside_at h i)
  have h2 := i_nn (iAlong r i q) h.wr (along_at h i)
  have h3 := i_nn (iSize r i * q.w - iAlong r i q) (a := dxR r i * dxR r i + dyR r i * dyR r i - (dxR r i * (p.x - ((r.corner i).x : Rat)) + dyR r i * (p.y - ((r.corner i).y : Rat)))) h.wr (by push_cast; rw [along_at h i, size_at]; grind)
  congr 1
  · simp only [h1]
  · congr 1
    · simp only [h2]
      rfl
    · rw [decide_eq_decide]
      constructor
      · intro k
        have := h3.mp (by omega)
        show dxR r i * (p.x - ((r.corner i).x : Rat)) + dyR r i * (p.y - ((r.corner i).y : Rat)) ≤ dxR r i * dxR r i + dyR r i * dyR r i
        grind
      · intro k
        have k : dxR r i * (p.x - ((r.corner i).x : Rat)) + dyR r i * (p.y - ((r.corner i).y : Rat)) ≤ dxR r i * dxR r i + dyR r i * dyR r i := k
        have := h3.mpr (by grind)
        omega
theorem on_at (R : RoomOk r) (h : At q p) (i : Nat) : iOn r i q = onLine (r.line i) p := on_nd h i (line_nd R i)
theorem low_at (h : At q p) (i : Nat) : iLow r i q = decide (p.y < ((r.corner i).y : Rat)) := by
  unfold iLow
  have := i_pos ((r.corner i).y * q.w - q.y) (a := ((r.corner i).y : Rat) - p.y) h.wr (by push_cast; rw [← h.y]; grind)
  rw [decide_eq_decide]
  constructor
  · intro k
    have := this.mp (by omega)
    grind
  · intro k
    have := this.mpr (by grind)
    omega
theorem onLine_lev {u v p : Pt} (hl : left u v p = 0) (c : (u.y ≤ p.y ∧ p.y < v.y) ∨ (v.y ≤ p.y ∧ p.y < u.y)) : onLine (u, v) p = true := by
  obtain ⟨ux, uy, u0⟩ := u
  obtain ⟨vx, vy, v0⟩ := v
  obtain ⟨px, py, p0⟩ := p
  dsimp only at c
  unfold left at hl
  dsimp only at hl
  have ne : vy - uy ≠ 0 := by grind
  have et : (py - uy) / (vy - uy) * (vy - uy) = py - uy := Rat.div_mul_cancel ne
  obtain ⟨t, ht⟩ : ∃ t, (py - uy) / (vy - uy) = t := ⟨_, rfl⟩
  rw [ht] at et
  have t0 : 0 ≤ t := by
    by_cases z : 0 ≤ t
    · exact z
    · rcases c with c | c
      · have := mpp (x := -t) (y := vy - uy) (by grind) (by grind)
        grind
      · have := mpp (x := -t) (y := uy - vy) (by grind) (by grind)
        grind
  have t1 : t ≤ 1 := by
    by_cases z : t ≤ 1
    · exact z
    · rcases c with c | c
      · have := mpp (x := t - 1) (y := vy - uy) (by grind) (by grind)
        grind
      · have := mpp (x := t - 1) (y := uy - vy) (by grind) (by grind)
        grind
  have e2 : py = uy + t * (vy - uy) := by grind
  have e1 : px = ux + t * (vx - ux) := by
    have k : (px - ux - t * (vx - ux)) * (vy - uy) = 0 := by grind
    rcases c with c | c
    · rw [mul_z_iff (show 0 < vy - uy by grind)] at k
      grind
    · have k2 : (px - ux - t * (vx - ux)) * (uy - vy) = 0 := by grind
      rw [mul_z_iff (show 0 < uy - vy by grind)] at k2
      grind
  rw [e1, e2]
  exact onLine_of ux uy vx vy t u0 v0 p0 t0 t1
theorem turns_at (h : At q p) (i : Nat) (off : onLine (r.line i) p = false) : iTurns r i q = crosses p (r.line i) := by
  unfold iTurns
  have h1 := i_pos (iBeside r i q) h.wr (beside_at h i)
  rw [low_at h, low_at h]
  simp only [h1]
  have o : left (r.line i).1 (r.line i).2 p = 0 → ¬ (((r.line i).1.y ≤ p.y ∧ p.y < (r.line i).2.y) ∨ ((r.line i).2.y ≤ p.y ∧ p.y < (r.line i).1.y)) := fun z c => by
    have := onLine_lev z c
    rw [show ((r.line i).1, (r.line i).2) = r.line i from rfl, off] at this
    cases this
  unfold crosses
  have e1 : (r.line i).1.y = ((r.corner i).y : Rat) := rfl
  have e2 : (r.line i).2.y = ((r.corner (i + 1)).y : Rat) := rfl
  rw [e1, e2] at o ⊢
  generalize left (r.line i).1 (r.line i).2 p = L at *
  generalize ((r.corner i).y : Rat) = a at *
  generalize ((r.corner (i + 1)).y : Rat) = b at *
  generalize p.y = c at *
  by_cases c1 : c < a <;> by_cases c2 : c < b <;> by_cases c3 : 0 < L <;> by_cases c4 : L < 0 <;> simp only [c1, c2, c3, c4, decide_true, decide_false, and_true, and_false, true_and, false_and, if_false, if_true, Bool.not_true, Bool.false_and, Bool.true_and, Bool.not_false, Bool.false_eq_true, Bool.true_eq_false, reduceIte] <;> grind
theorem within_at (R : RoomOk r) (h : At q p) : iWithin r q = r.within p := by
  unfold iWithin Room.within
  have e1 : ((List.range r.n).any fun i => iOn r i q) = (r.lines.any fun (l : Pt × Pt) => onLine l p) := by
    unfold Room.lines
    rw [List.any_map]
    congr 1
    funext i
    exact on_at R h i
  rw [e1]
  cases c : (r.lines.any fun (l : Pt × Pt) => onLine l p) with
  | true => rfl
  | false =>
    have off : ∀ i, i < r.n → onLine (r.line i) p = false := fun i hi => by
      have := (List.any_eq_false.mp c) (r.line i) (List.mem_map.mpr ⟨i, List.mem_range.mpr hi, rfl⟩)
      simpa using this
    have e2 : ((List.range r.n).filter fun i => iTurns r i q).length = (r.lines.filter (crosses p)).length := by
      unfold Room.lines
      rw [List.filter_map, List.length_map]
      congr 1
      refine List.filter_congr fun i hi => ?_
      exact turns_at h i (off i (List.mem_range.mp hi))
    rw [e2]
    rfl
theorem height_at (h : At q p) : iHeight r q = (decide (0 < p.z) && decide (p.z < (r.h : Rat))) := by
  unfold iHeight
  have h1 := i_pos q.z h.wr h.z.symm
  have h2 := i_pos (r.h * q.w - q.z) (a := (r.h : Rat) - p.z) h.wr (by push_cast; rw [← h.z]; grind)
  congr 1
  · simp only [h1]
  · rw [decide_eq_decide]
    constructor
    · intro k
      have := h2.mp (by omega)
      grind
    · intro k
      have := h2.mpr (by grind)
      omega
theorem inside_at (R : RoomOk r) (h : At q p) : iInside r q = r.inside p := by
  unfold iInside Room.inside
  rw [within_at R h, height_at h, Bool.and_comm]
end
end Rt
namespace Rt
open Eh
section
variable {r : Room} {p q : Q4} {A B : Pt}
theorem At.fun_ {A' : Pt} (h : At p A) (h' : At p A') : A = A' := by
  have w := h.wr
  obtain ⟨ax, ay, az⟩ := A
  obtain ⟨bx, by_, bz⟩ := A'
  have k : ∀ a b c : Rat, a * (p.w : Rat) = c → b * (p.w : Rat) = c → a = b := fun a b c h1 h2 => by
    have : (a - b) * (p.w : Rat) = 0 := by grind
    rw [mul_z_iff w] at this
    grind
  rw [k ax bx _ h.x h'.x, k ay by_ _ h.y h'.y, k az bz _ h.z h'.z]
theorem wpos2 (hp : At p A) (hq : At q B) : (0 : Rat) < (p.w : Rat) * (q.w : Rat) := mpp hp.wr hq.wr
theorem way_x (hp : At p A) (hq : At q B) : ((iWay p q).1 : Rat) = (B.x - A.x) * ((p.w : Rat) * (q.w : Rat)) := by
  unfold iWay
  push_cast
  rw [← hp.x, ← hq.x]
  grind
theorem way_y (hp : At p A) (hq : At q B) : ((iWay p q).2 : Rat) = (B.y - A.y) * ((p.w : Rat) * (q.w : Rat)) := by
  unfold iWay
  push_cast
  rw [← hp.y, ← hq.y]
  grind
theorem from_x (hp : At p A) (i : Nat) : ((iFrom r p i).1 : Rat) = (((r.corner i).x : Rat) - A.x) * (p.w : Rat) := by
  unfold iFrom
  push_cast
  rw [← hp.x]
  grind
theorem from_y (hp : At p A) (i : Nat) : ((iFrom r p i).2 : Rat) = (((r.corner i).y : Rat) - A.y) * (p.w : Rat) := by
  unfold iFrom
  push_cast
  rw [← hp.y]
  grind
theorem crossF (hp : At p A) (hq : At q B) (i : Nat) : ((iCross (iWay p q) (iFrom r p i) : Int) : Rat) = -(turn (((r.corner i).x : Rat) - A.x) (((r.corner i).y : Rat) - A.y) (B.x - A.x) (B.y - A.y)) * ((p.w : Rat) * (q.w : Rat) * (p.w : Rat)) := by
  unfold iCross turn
  push_cast
  rw [way_x hp hq, way_y hp hq, from_x hp, from_y hp]
  grind
theorem aheadF (hp : At p A) (hq : At q B) (i : Nat) : ((iAhead (iWay p q) (iFrom r p i) : Int) : Rat) = ((((r.corner i).x : Rat) - A.x) * (B.x - A.x) + (((r.corner i).y : Rat) - A.y) * (B.y - A.y)) * ((p.w : Rat) * (q.w : Rat) * (p.w : Rat)) := by
  unfold iAhead
  push_cast
  rw [way_x hp hq, way_y hp hq, from_x hp, from_y hp]
  grind
theorem aheadW (hp : At p A) (hq : At q B) : ((iAhead (iWay p q) (iWay p q) : Int) : Rat) = ((B.x - A.x) * (B.x - A.x) + (B.y - A.y) * (B.y - A.y)) * ((p.w : Rat) * (q.w : Rat) * (p.w : Rat) * (q.w : Rat)) := by
  unfold iAhead
  push_cast
  rw [way_x hp hq, way_y hp hq]
  grind
theorem sq_sum_pos {a b : Rat} (h : a ≠ 0 ∨ b ≠ 0) : 0 < a * a + b * b := by
  have sq : ∀ a : Rat, a ≠ 0 → 0 < a * a := fun a h => by
    by_cases z : 0 < a
    · exact mpp z z
    · have := mpp (x := -a) (y := -a) (by grind) (by grind)
      grind
  have sn : ∀ a : Rat, 0 ≤ a * a := fun a => by
    by_cases z : a = 0
    · rw [z]; grind
    · have := sq a z; grind
  rcases h with h | h
  · have := sq _ h
    have := sn b
    grind
  · have := sq _ h
    have := sn a
    grind
/-- quotients against 0 and 1 -/
theorem div_pos_iff {a d : Rat} (h : 0 < d) : (0 < a / d) = (0 < a) := by
  have e : a / d * d = a := Rat.div_mul_cancel (by grind)
  rw [← mul_pos_iff h, e]
theorem div_lt1_iff {a d : Rat} (h : 0 < d) : (a / d < 1) = (a < d) := by
  have e : a / d * d = a := Rat.div_mul_cancel (by grind)
  have k := mul_pos_iff (a := 1 - a / d) h
  apply propext
  constructor
  · intro z
    have : 0 < (1 - a / d) * d := by rw [k]; grind
    grind
  · intro z
    have : 0 < 1 - a / d := by rw [← k]; grind
    grind
theorem div_neg' {a d : Rat} : a / d = -a / -d := by
  by_cases z : d = 0
  · subst z
    simp [Rat.div_def]
  · have e : a / d * d = a := Rat.div_mul_cancel z
    have e2 : -a / -d * -d = -a := Rat.div_mul_cancel (by grind)
    have : (a / d - -a / -d) * d = 0 := by grind
    by_cases s : 0 < d
    · rw [mul_z_iff s] at this; grind
    · have k : (a / d - -a / -d) * -d = 0 := by grind
      rw [mul_z_iff (show 0 < -d by grind)] at k
      grind
end
/-- the line u v against the way from A to B -/
theorem touches_case {A B u v : Pt} (ne : v.x - u.x ≠ 0 ∨ v.y - u.y ≠ 0) (far : B.x - A.x ≠ 0 ∨ B.y - A.y ≠ 0) :
    touches A B (u, v) = (if left u v A = 0 ∧ left u v B = 0 then
        decide (0 < max ((u.x - A.x) * (B.x - A.x) + (u.y - A.y) * (B.y - A.y)) ((v.x - A.x) * (B.x - A.x) + (v.y - A.y) * (B.y - A.y))) && decide (min ((u.x - A.x) * (B.x - A.x) + (u.y - A.y) * (B.y - A.y)) ((v.x - A.x) * (B.x - A.x) + (v.y - A.y) * (B.y - A.y)) < (B.x - A.x) * (B.x - A.x) + (B.y - A.y) * (B.y - A.y))
      else if decide (0 < left u v A) = decide (0 < left u v B) ∨ left u v A = 0 ∨ left u v B = 0 then false
      else (decide (0 ≤ -(turn (u.x - A.x) (u.y - A.y) (B.x - A.x) (B.y - A.y))) && decide (-(turn (v.x - A.x) (v.y - A.y) (B.x - A.x) (B.y - A.y)) ≤ 0)) || (decide (-(turn (u.x - A.x) (u.y - A.y) (B.x - A.x) (B.y - A.y)) ≤ 0) && decide (0 ≤ -(turn (v.x - A.x) (v.y - A.y) (B.x - A.x) (B.y - A.y))))) := by
  obtain ⟨ux, uy, u0⟩ := u
  obtain ⟨vx, vy, v0⟩ := v
  obtain ⟨px, py, p0⟩ := A
  obtain ⟨qx, qy, q0⟩ := B
  unfold touches turn left
  dsimp only at ne far ⊢
  have S0 := sq_sum_pos far
  obtain ⟨dx, hdx⟩ : ∃ d, qx - px = d := ⟨_, rfl⟩
  obtain ⟨dy, hdy⟩ : ∃ d, qy - py = d := ⟨_, rfl⟩
  obtain ⟨ex, hex⟩ : ∃ d, vx - ux = d := ⟨_, rfl⟩
  obtain ⟨ey, hey⟩ : ∃ d, vy - uy = d := ⟨_, rfl⟩
  obtain ⟨ax, hax⟩ : ∃ d, ux - px = d := ⟨_, rfl⟩
  obtain ⟨ay, hay⟩ : ∃ d, uy - py = d := ⟨_, rfl⟩
  rw [hdx, hdy] at far S0
  rw [hex, hey] at ne
  rw [hdx, hdy, hex, hey, hax, hay]
  have L1 : ex * (py - uy) - ey * (px - ux) = ax * ey - ay * ex := by grind
  have L2 : ex * (qy - uy) - ey * (qx - ux) = (ax * ey - ay * ex) - (dx * ey - dy * ex) := by grind
  have V1 : vx - px = ax + ex := by grind
  have V2 : vy - py = ay + ey := by grind
  rw [L1, L2, V1, V2]
  clear L1 L2 V1 V2 hdx hdy hex hey hax hay
  obtain ⟨N, hN⟩ : ∃ N, ax * ey - ay * ex = N := ⟨_, rfl⟩
  obtain ⟨d, hd⟩ : ∃ N, dx * ey - dy * ex = N := ⟨_, rfl⟩
  obtain ⟨M, hM⟩ : ∃ N, ax * dy - ay * dx = N := ⟨_, rfl⟩
  have M2 : (ax + ex) * dy - (ay + ey) * dx = M - d := by grind
  rw [hN, hd, hM, M2]
  have E0 := sq_sum_pos ne
  by_cases d0 : d = 0
  · subst d0
    have M3 : M - 0 = M := by grind
    have N3 : N - 0 = N := by grind
    rw [M3, N3]
    rw [if_neg (show ¬ ((0 : Rat) ≠ 0) from fun z => z rfl)]
    by_cases N0 : N = 0
    · rw [if_pos (show N = 0 ∧ N = 0 from ⟨N0, N0⟩)]
      have M0 : M = 0 := by
        -- a and d are both along e
        have k1 : M * (ex * ex + ey * ey) = 0 := by grind
        rw [mul_z_iff E0] at k1
        exact k1
      rw [if_neg (show ¬ (M ≠ 0) from fun z => z M0), if_neg (show ¬ (dx = 0 ∧ dy = 0) from fun z => far.elim (fun f => f z.1) fun f => f z.2)]
      rw [Bool.and_comm]
      obtain ⟨S, hS⟩ : ∃ S, dx * dx + dy * dy = S := ⟨_, rfl⟩
      rw [hS] at S0 ⊢
      obtain ⟨a1, ha1⟩ : ∃ S, ax * dx + ay * dy = S := ⟨_, rfl⟩
      obtain ⟨b1, hb1⟩ : ∃ S, (ax + ex) * dx + (ay + ey) * dy = S := ⟨_, rfl⟩
      rw [ha1, hb1]
      have ga := div_pos_iff (a := a1) S0
      have gb := div_pos_iff (a := b1) S0
      have la := div_lt1_iff (a := a1) S0
      have lb := div_lt1_iff (a := b1) S0
      congr 1
      · rw [decide_eq_decide]
        rw [show (0 < max (a1 / S) (b1 / S)) = (0 < a1 / S ∨ 0 < b1 / S) by apply propext; grind, ga, gb]
        grind
      · rw [decide_eq_decide]
        rw [show (min (a1 / S) (b1 / S) < 1) = (a1 / S < 1 ∨ b1 / S < 1) by apply propext; grind, la, lb]
        grind
    · rw [if_neg (show ¬ (N = 0 ∧ N = 0) from fun z => N0 z.1)]
      have M0 : M ≠ 0 := fun z => by
        have k1 : N * (dx * dx + dy * dy) = 0 := by grind
        rw [mul_z_iff S0] at k1
        exact N0 k1
      rw [if_pos (show M ≠ 0 from M0), if_pos (show decide (0 < N) = decide (0 < N) ∨ N = 0 ∨ N = 0 from .inl rfl)]
  · rw [if_pos d0]
    rw [if_neg (show ¬ (N = 0 ∧ N - d = 0) by grind)]
    have core : ∀ (N M d : Rat), 0 < d → (decide (0 < N / d) && (decide (N / d < 1) && (decide (0 ≤ M / d) && decide (M / d ≤ 1)))) = (decide (0 < N) && (decide (N < d) && (decide (0 ≤ M) && decide (M ≤ d)))) := fun N M d h => by
      have k1 := div_pos_iff (a := N) h
      have k2 := div_lt1_iff (a := N) h
      have k3 : (0 ≤ M / d) = (0 ≤ M) := by
        have := div_pos_iff (a := -M) h
        have e : -M / d = -(M / d) := by
          have e1 : -M / d * d = -M := Rat.div_mul_cancel (by grind)
          have e2 : M / d * d = M := Rat.div_mul_cancel (by grind)
          have : (-M / d + M / d) * d = 0 := by grind
          rw [mul_z_iff h] at this
          grind
        rw [e] at this
        apply propext
        rw [← Rat.not_lt, ← Rat.not_lt]
        rw [show (M / d < 0) = (0 < -(M / d)) by apply propext; grind, this]
        grind
      have k4 : (M / d ≤ 1) = (M ≤ d) := by
        have e2 : M / d * d = M := Rat.div_mul_cancel (by grind)
        have := mul_pos_iff (a := M / d - 1) h
        apply propext
        rw [← Rat.not_lt, ← Rat.not_lt]
        rw [show (1 < M / d) = (0 < M / d - 1) by apply propext; grind, ← this]
        grind
      simp only [k1, k2, k3, k4]
    by_cases dp : 0 < d
    · rw [core N M d dp]
      by_cases c1 : 0 < N <;> by_cases c2 : N < d <;> by_cases c3 : 0 ≤ M <;> by_cases c4 : M ≤ d <;> simp [c1, c2, c3, c4] <;> grind
    · rw [div_neg' (a := N), div_neg' (a := M), core (-N) (-M) (-d) (by grind)]
      by_cases c1 : N < 0 <;> by_cases c2 : d < N <;> by_cases c3 : M ≤ 0 <;> by_cases c4 : d ≤ M <;> simp [c1, c2, c3, c4] <;> grind
end Rt
namespace Rt
open Eh
section
variable {r : Room} {p q : Q4} {A B : Pt}
theorem blocked_at (R : RoomOk r) (hp : At p A) (hq : At q B) (far : B.x - A.x ≠ 0 ∨ B.y - A.y ≠ 0) (i : Nat) : iBlocked r i p q = touches A B (r.line i) := by
  rw [show r.line i = ((r.line i).1, (r.line i).2) from rfl, touches_case (line_nd R i) far]
  have f1 := i_pos (iBeside r i p) hp.wr (beside_at hp i)
  have f2 := i_zero (iBeside r i p) hp.wr (beside_at hp i)
  have g1 := i_pos (iBeside r i q) hq.wr (beside_at hq i)
  have g2 := i_zero (iBeside r i q) hq.wr (beside_at hq i)
  have W : (0 : Rat) < (p.w : Rat) * (q.w : Rat) * (p.w : Rat) := mpp (mpp hp.wr hq.wr) hp.wr
  unfold iBlocked
  dsimp only
  simp only [f1, f2, g1, g2]
  by_cases c1 : left (r.line i).1 (r.line i).2 A = 0 ∧ left (r.line i).1 (r.line i).2 B = 0
  · rw [if_pos c1, if_pos c1]
    unfold iBlockAlong
    dsimp only
    have ea := aheadF (r := r) hp hq i
    have eb := aheadF (r := r) hp hq (i + 1)
    have ew := aheadW hp hq
    have e1 : (r.line i).1.x = ((r.corner i).x : Rat) := rfl
    have e2 : (r.line i).1.y = ((r.corner i).y : Rat) := rfl
    have e3 : (r.line i).2.x = ((r.corner (i + 1)).x : Rat) := rfl
    have e4 : (r.line i).2.y = ((r.corner (i + 1)).y : Rat) := rfl
    rw [e1, e2, e3, e4]
    generalize (((r.corner i).x : Rat) - A.x) * (B.x - A.x) + (((r.corner i).y : Rat) - A.y) * (B.y - A.y) = a at *
    generalize (((r.corner (i + 1)).x : Rat) - A.x) * (B.x - A.x) + (((r.corner (i + 1)).y : Rat) - A.y) * (B.y - A.y) = b at *
    generalize (B.x - A.x) * (B.x - A.x) + (B.y - A.y) * (B.y - A.y) = S at *
    generalize iAhead (iWay p q) (iFrom r p i) = ia at *
    generalize iAhead (iWay p q) (iFrom r p (i + 1)) = ib at *
    generalize iAhead (iWay p q) (iWay p q) = iw at *
    have ha := i_pos ia W ea
    have hb := i_pos ib W eb
    have W2 := mpp W hq.wr
    have la := i_pos (iw - ia * q.w) (a := S - a) W2 (by push_cast; rw [ew, ea]; grind)
    have lb := i_pos (iw - ib * q.w) (a := S - b) W2 (by push_cast; rw [ew, eb]; grind)
    congr 1
    · rw [decide_eq_decide, show (0 < max ia ib) = (0 < ia ∨ 0 < ib) by apply propext; omega, ha, hb]
      grind
    · rw [decide_eq_decide]
      have k : (min ia ib * q.w < iw) = (0 < iw - ia * q.w ∨ 0 < iw - ib * q.w) := by
        apply propext
        rcases Int.le_total ia ib with z | z
        · rw [Int.min_eq_left z]
          have := Int.mul_le_mul_of_nonneg_right z (Int.le_of_lt hq.w)
          omega
        · rw [Int.min_eq_right z]
          have := Int.mul_le_mul_of_nonneg_right z (Int.le_of_lt hq.w)
          omega
      rw [k, la, lb]
      grind
  · rw [if_neg c1, if_neg c1]
    by_cases c2 : decide (0 < left (r.line i).1 (r.line i).2 A) = decide (0 < left (r.line i).1 (r.line i).2 B) ∨ left (r.line i).1 (r.line i).2 A = 0 ∨ left (r.line i).1 (r.line i).2 B = 0
    · rw [if_pos c2, if_pos c2]
    · rw [if_neg c2, if_neg c2]
      have ea := crossF (r := r) hp hq i
      have eb := crossF (r := r) hp hq (i + 1)
      have n1 := i_nn _ W ea
      have n2 := i_np _ W ea
      have m1 := i_nn _ W eb
      have m2 := i_np _ W eb
      simp only [n1, n2, m1, m2]
      rfl
theorem point_at {x y z w : Int} (hw : 0 < w) {P : Pt} (hx : P.x * (w : Rat) = (x : Rat)) (hy : P.y * (w : Rat) = (y : Rat)) (hz : P.z * (w : Rat) = (z : Rat)) : At (iPoint x y z w) P := by
  have gw : (Int.gcd (Int.gcd x y) (Int.gcd z w) : Int) ∣ w := Int.dvd_trans (Int.gcd_dvd_right _ _) (Int.gcd_dvd_right _ _)
  have gz : (Int.gcd (Int.gcd x y) (Int.gcd z w) : Int) ∣ z := Int.dvd_trans (Int.gcd_dvd_right _ _) (Int.gcd_dvd_left _ _)
  have gy : (Int.gcd (Int.gcd x y) (Int.gcd z w) : Int) ∣ y := Int.dvd_trans (Int.gcd_dvd_left _ _) (Int.gcd_dvd_right _ _)
  have gx : (Int.gcd (Int.gcd x y) (Int.gcd z w) : Int) ∣ x := Int.dvd_trans (Int.gcd_dvd_left _ _) (Int.gcd_dvd_left _ _)
  unfold iPoint
  dsimp only
  have g0 : (0 : Int) ≤ (Int.gcd (Int.gcd x y) (Int.gcd z w) : Int) := Int.natCast_nonneg _
  generalize (Int.gcd (Int.gcd x y) (Int.gcd z w) : Int) = g at *
  obtain ⟨x', rfl⟩ := gx
  obtain ⟨y', rfl⟩ := gy
  obtain ⟨z', rfl⟩ := gz
  obtain ⟨w', rfl⟩ := gw
  have gp : 0 < g := by
    by_cases z : g = 0
    · subst z; simp at hw
    · omega
  have gne : g ≠ 0 := by omega
  have gr : (0 : Rat) < (g : Rat) := by exact_mod_cast gp
  rw [Int.mul_ediv_cancel_left _ gne, Int.mul_ediv_cancel_left _ gne, Int.mul_ediv_cancel_left _ gne, Int.mul_ediv_cancel_left _ gne]
  rw [Rat.intCast_mul, Rat.intCast_mul] at hx hy hz
  have k : ∀ a b : Rat, a * ((g : Rat) * (w' : Rat)) = (g : Rat) * b → a * (w' : Rat) = b := fun a b h => by
    have : (a * (w' : Rat) - b) * (g : Rat) = 0 := by grind
    rw [mul_z_iff gr] at this
    grind
  exact ⟨Int.pos_of_mul_pos_left (by rw [Int.mul_comm]; exact hw) gp, k _ _ hx, k _ _ hy, k _ _ hz⟩
/-- in lowest terms -/
def Nrm (q : Q4) : Prop := Int.gcd (Int.gcd q.x q.y) (Int.gcd q.z q.w) = 1
theorem nrm_point {x y z w : Int} (hw : 0 < w) : Nrm (iPoint x y z w) := by
  have gw : (Int.gcd (Int.gcd x y) (Int.gcd z w) : Int) ∣ w := Int.dvd_trans (Int.gcd_dvd_right _ _) (Int.gcd_dvd_right _ _)
  have gz : (Int.gcd (Int.gcd x y) (Int.gcd z w) : Int) ∣ z := Int.dvd_trans (Int.gcd_dvd_right _ _) (Int.gcd_dvd_left _ _)
  have gy : (Int.gcd (Int.gcd x y) (Int.gcd z w) : Int) ∣ y := Int.dvd_trans (Int.gcd_dvd_left _ _) (Int.gcd_dvd_right _ _)
  have gx : (Int.gcd (Int.gcd x y) (Int.gcd z w) : Int) ∣ x := Int.dvd_trans (Int.gcd_dvd_left _ _) (Int.gcd_dvd_left _ _)
  unfold Nrm iPoint
  dsimp only
  obtain ⟨g, hg⟩ : ∃ g, Int.gcd (Int.gcd x y) (Int.gcd z w) = g := ⟨_, rfl⟩
  rw [hg] at gx gy gz gw ⊢
  obtain ⟨x', rfl⟩ := gx
  obtain ⟨y', rfl⟩ := gy
  obtain ⟨z', rfl⟩ := gz
  obtain ⟨w', rfl⟩ := gw
  have gp : 0 < g := by
    rcases Nat.eq_zero_or_pos g with z | z
    · subst z; simp at hw
    · exact z
  have gne : (g : Int) ≠ 0 := by omega
  rw [Int.mul_ediv_cancel_left _ gne, Int.mul_ediv_cancel_left _ gne, Int.mul_ediv_cancel_left _ gne, Int.mul_ediv_cancel_left _ gne]
  rw [Int.gcd_mul_left, Int.gcd_mul_left, Int.natAbs_natCast, Int.natCast_mul, Int.natCast_mul, Int.gcd_mul_left, Int.natAbs_natCast] at hg
  exact Nat.eq_of_mul_eq_mul_left gp (by rw [hg, Nat.mul_one])
theorem nrm_one {q : Q4} (h : q.w = 1) : Nrm q := by
  unfold Nrm
  rw [h, Int.gcd_one_right]
  exact Int.gcd_one_right _
theorem nrm_uniq (hp : At p A) (hq : At q A) (np : Nrm p) (nq : Nrm q) : p = q := by
  have e : ∀ (a : Rat) (u v : Int), a * (p.w : Rat) = (u : Rat) → a * (q.w : Rat) = (v : Rat) → q.w * u = p.w * v := fun a u v h1 h2 => by
    have : ((q.w * u : Int) : Rat) = ((p.w * v : Int) : Rat) := by push_cast; rw [← h1, ← h2]; grind
    exact_mod_cast this
  have ex := e _ _ _ hp.x hq.x
  have ey := e _ _ _ hp.y hq.y
  have ez := e _ _ _ hp.z hq.z
  have w1 := hp.w
  have w2 := hq.w
  have k : Int.gcd (Int.gcd (q.w * p.x) (q.w * p.y)) (Int.gcd (q.w * p.z) (q.w * p.w)) = Int.gcd (Int.gcd (p.w * q.x) (p.w * q.y)) (Int.gcd (p.w * q.z) (p.w * q.w)) := by
    rw [ex, ey, ez, Int.mul_comm q.w p.w]
  have k1 : ∀ (c a b d f : Int), 0 < c → Int.gcd (Int.gcd (c * a) (c * b)) (Int.gcd (c * d) (c * f)) = c.natAbs * Int.gcd (Int.gcd a b) (Int.gcd d f) := fun c a b d f hc => by
    rw [Int.gcd_mul_left, Int.gcd_mul_left, Int.natCast_mul, Int.natCast_mul, Int.gcd_mul_left, Int.natAbs_natCast]
  rw [k1 _ _ _ _ _ w2, k1 _ _ _ _ _ w1, np, nq] at k
  have ew : p.w = q.w := by omega
  obtain ⟨px, py, pz, pw⟩ := p
  obtain ⟨qx, qy, qz, qw⟩ := q
  dsimp only at *
  subst ew
  have ne : pw ≠ 0 := by omega
  rw [Int.eq_of_mul_eq_mul_left ne ex, Int.eq_of_mul_eq_mul_left ne ey, Int.eq_of_mul_eq_mul_left ne ez]
theorem between_at (hp : At p A) (hq : At q B) : At (iBetween p q) (onWay A B (1 / 2)) := by
  unfold iBetween
  have w1 := hp.w
  have w2 := hq.w
  have e1 := hp.x
  have e2 := hp.y
  have e3 := hp.z
  have d1 := hq.x
  have d2 := hq.y
  have d3 := hq.z
  refine point_at (Int.mul_pos (Int.mul_pos (by decide) w1) w2) ?_ ?_ ?_
  · unfold onWay; push_cast; grind
  · unfold onWay; push_cast; grind
  · unfold onWay; push_cast; grind
theorem way_zero (hp : At p A) (hq : At q B) : (iWay p q = (0, 0)) = (B.x - A.x = 0 ∧ B.y - A.y = 0) := by
  have e1 := i_zero _ (wpos2 hp hq) (way_x hp hq)
  have e2 := i_zero _ (wpos2 hp hq) (way_y hp hq)
  rw [← e1, ← e2]
  apply propext
  exact ⟨fun h => by rw [h]; exact ⟨rfl, rfl⟩, fun h => Prod.ext h.1 h.2⟩
theorem pt_eq {A B : Pt} : (A == B) = decide (A = B) := by
  rw [Bool.eq_iff_iff, beq_iff_eq, decide_eq_true_iff]
theorem clear_at (R : RoomOk r) (hp : At p A) (hq : At q B) (np : Nrm p) (nq : Nrm q) : iClear r p q = r.clear A B := by
  unfold iClear Room.clear
  by_cases c : p = q
  · have e : A = B := by subst c; exact hp.fun_ hq
    rw [if_pos c, e]
    simp
  · have ne : A ≠ B := fun e => c (nrm_uniq hp (e ▸ hq) np nq)
    rw [if_neg c, pt_eq, decide_eq_false ne, Bool.false_or, inside_at R (between_at hp hq)]
    cases hi : r.inside (onWay A B (1 / 2)) with
    | false => rw [if_pos rfl, Bool.and_false]
    | true =>
      rw [if_neg (by decide), Bool.and_true]
      by_cases wz : B.x - A.x = 0 ∧ B.y - A.y = 0
      · rw [if_pos (by rw [way_zero hp hq]; exact wz)]
        symm
        rw [Bool.not_eq_true', List.any_eq_false]
        intro l hl
        obtain ⟨i, hi2, rfl⟩ := List.mem_map.mp hl
        have off : onLine (r.line i) (onWay A B (1 / 2)) = false := by
          unfold Room.inside Room.within at hi
          simp only [Bool.and_eq_true, Bool.not_eq_true', List.any_eq_false] at hi
          simpa using hi.1.1 _ hl
        have e : onLine (r.line i) (onWay A B (1 / 2)) = onLine (r.line i) A := by
          unfold onLine left onWay
          dsimp only
          rw [show A.x + 1 / 2 * (B.x - A.x) = A.x by rw [wz.1]; grind, show A.y + 1 / 2 * (B.y - A.y) = A.y by rw [wz.2]; grind]
        rw [e] at off
        unfold touches turn
        dsimp only
        rw [wz.1, wz.2]
        simp only [Rat.zero_mul, Rat.mul_zero, Rat.sub_self, ne_eq, not_true_eq_false, if_false, true_and, if_true, and_self]
        rw [off]
        decide
      · rw [if_neg (by rw [way_zero hp hq]; exact wz)]
        congr 1
        unfold Room.lines
        rw [List.any_map]
        congr 1
        funext i
        refine blocked_at R hp hq ?_ i
        by_cases z : B.x - A.x = 0
        · exact .inr fun z2 => wz ⟨z, z2⟩
        · exact .inl z
end
end Rt
namespace Rt
open Eh
section
variable {r : Room} {p q : Q4} {A B : Pt}
theorem touches_symm {A B u v : Pt} (ne : v.x - u.x ≠ 0 ∨ v.y - u.y ≠ 0) : touches A B (u, v) = touches B A (u, v) := by
  by_cases far : B.x - A.x ≠ 0 ∨ B.y - A.y ≠ 0
  · have far' : A.x - B.x ≠ 0 ∨ A.y - B.y ≠ 0 := by
      rcases far with h | h
      · exact .inl (by grind)
      · exact .inr (by grind)
    rw [touches_case ne far, touches_case ne far']
    have e1 : (u.x - B.x) * (A.x - B.x) + (u.y - B.y) * (A.y - B.y) = ((B.x - A.x) * (B.x - A.x) + (B.y - A.y) * (B.y - A.y)) - ((u.x - A.x) * (B.x - A.x) + (u.y - A.y) * (B.y - A.y)) := by grind
    have e2 : (v.x - B.x) * (A.x - B.x) + (v.y - B.y) * (A.y - B.y) = ((B.x - A.x) * (B.x - A.x) + (B.y - A.y) * (B.y - A.y)) - ((v.x - A.x) * (B.x - A.x) + (v.y - A.y) * (B.y - A.y)) := by grind
    have e3 : (A.x - B.x) * (A.x - B.x) + (A.y - B.y) * (A.y - B.y) = (B.x - A.x) * (B.x - A.x) + (B.y - A.y) * (B.y - A.y) := by grind
    have e4 : turn (u.x - B.x) (u.y - B.y) (A.x - B.x) (A.y - B.y) = -turn (u.x - A.x) (u.y - A.y) (B.x - A.x) (B.y - A.y) := by unfold turn; grind
    have e5 : turn (v.x - B.x) (v.y - B.y) (A.x - B.x) (A.y - B.y) = -turn (v.x - A.x) (v.y - A.y) (B.x - A.x) (B.y - A.y) := by unfold turn; grind
    rw [e1, e2, e3, e4, e5]
    generalize (B.x - A.x) * (B.x - A.x) + (B.y - A.y) * (B.y - A.y) = S
    generalize (u.x - A.x) * (B.x - A.x) + (u.y - A.y) * (B.y - A.y) = a
    generalize (v.x - A.x) * (B.x - A.x) + (v.y - A.y) * (B.y - A.y) = b
    generalize turn (u.x - A.x) (u.y - A.y) (B.x - A.x) (B.y - A.y) = M
    generalize turn (v.x - A.x) (v.y - A.y) (B.x - A.x) (B.y - A.y) = N
    generalize left u v A = L
    generalize left u v B = K
    by_cases c1 : L = 0 ∧ K = 0
    · rw [if_pos c1, if_pos (show K = 0 ∧ L = 0 from ⟨c1.2, c1.1⟩), Bool.and_comm]
      congr 1
      · rw [decide_eq_decide]; grind
      · rw [decide_eq_decide]; grind
    · rw [if_neg c1, if_neg (show ¬ (K = 0 ∧ L = 0) from fun z => c1 ⟨z.2, z.1⟩)]
      have sw : (decide (0 < L) = decide (0 < K) ∨ L = 0 ∨ K = 0) → (decide (0 < K) = decide (0 < L) ∨ K = 0 ∨ L = 0) := fun h => h.elim (fun h => .inl h.symm) fun h => h.elim (fun h => .inr (.inr h)) fun h => .inr (.inl h)
      have sw2 : (decide (0 < K) = decide (0 < L) ∨ K = 0 ∨ L = 0) → (decide (0 < L) = decide (0 < K) ∨ L = 0 ∨ K = 0) := fun h => h.elim (fun h => .inl h.symm) fun h => h.elim (fun h => .inr (.inr h)) fun h => .inr (.inl h)
      by_cases c2 : decide (0 < L) = decide (0 < K) ∨ L = 0 ∨ K = 0
      · rw [if_pos c2, if_pos (sw c2)]
      · rw [if_neg c2, if_neg (fun z => c2 (sw2 z))]
        by_cases m1 : 0 ≤ -M <;> by_cases m2 : -M ≤ 0 <;> by_cases m3 : 0 ≤ -N <;> by_cases m4 : -N ≤ 0 <;> simp only [m1, m2, m3, m4, decide_true, decide_false] <;> grind
  · have ex : B.x = A.x := by
      by_cases z : B.x = A.x
      · exact z
      · exact absurd (Or.inl (by grind)) far
    have ey : B.y = A.y := by
      by_cases z : B.y = A.y
      · exact z
      · exact absurd (Or.inr (by grind)) far
    unfold touches onLine left
    dsimp only
    rw [ex, ey]
theorem clear_symm (R : RoomOk r) (A B : Pt) : r.clear A B = r.clear B A := by
  unfold Room.clear
  have e1 : (A == B) = (B == A) := by rw [pt_eq, pt_eq, decide_eq_decide]; exact eq_comm
  have e2 : onWay A B (1 / 2) = onWay B A (1 / 2) := by
    unfold onWay
    congr 1 <;> grind
  have e3 : r.lines.any (touches A B) = r.lines.any (touches B A) := by
    unfold Room.lines
    rw [List.any_map, List.any_map]
    congr 1
    funext i
    exact touches_symm (u := (r.line i).1) (v := (r.line i).2) (line_nd R i)
  rw [e1, e2, e3]
/-! ### sides -/
def sd (r : Room) (w : Nat) (P : Pt) : Rat := if w = r.n then P.z else if r.n < w then (r.h : Rat) - P.z else left (r.line w).1 (r.line w).2 P
theorem side_at (h : At q A) (w : Nat) : ((iSide r w q : Int) : Rat) = sd r w A * (q.w : Rat) := by
  unfold iSide sd
  split
  · exact h.z.symm
  · split
    · push_cast
      rw [← h.z]
      grind
    · exact beside_at h w
theorem sd_way (w : Nat) (t : Rat) : sd r w (onWay A B t) = sd r w A + t * (sd r w B - sd r w A) := by
  unfold sd
  split
  · rfl
  · split
    · unfold onWay; grind
    · unfold left onWay; grind
theorem through_sd (w : Nat) : r.through w A B = if sd r w A = sd r w B then none else if 0 < sd r w A / (sd r w A - sd r w B) ∧ sd r w A / (sd r w A - sd r w B) < 1 then some (onWay A B (sd r w A / (sd r w A - sd r w B))) else none := by
  unfold Room.through
  by_cases c1 : w < r.n
  · have es : ∀ P, sd r w P = left (r.line w).1 (r.line w).2 P := fun P => by unfold sd; rw [if_neg (by omega), if_neg (by omega)]
    rw [if_pos c1, es, es]
    dsimp only
    by_cases c2 : left (r.line w).1 (r.line w).2 A = left (r.line w).1 (r.line w).2 B
    · rw [if_pos c2, if_pos c2]; rfl
    · rw [if_neg c2, if_neg c2]; rfl
  · rw [if_neg c1]
    dsimp only
    by_cases c2 : w = r.n
    · have es : ∀ P, sd r w P = P.z := fun P => by unfold sd; rw [if_pos c2]
      rw [if_pos c2, es, es]
      by_cases c3 : A.z = B.z
      · rw [if_pos c3, if_pos c3]; rfl
      · rw [if_neg c3, if_neg c3]
        have e : (0 - A.z) / (B.z - A.z) = A.z / (A.z - B.z) := by
          rw [div_neg' (a := A.z)]
          congr 1 <;> grind
        rw [e]
        rfl
    · have es : ∀ P, sd r w P = (r.h : Rat) - P.z := fun P => by unfold sd; rw [if_neg c2, if_pos (by omega)]
      rw [if_neg c2, es, es]
      by_cases c3 : A.z = B.z
      · rw [if_pos c3, if_pos (by rw [c3])]; rfl
      · rw [if_neg c3, if_neg (fun z => c3 (by grind))]
        have e : ((r.h : Rat) - A.z) / (B.z - A.z) = ((r.h : Rat) - A.z) / ((r.h : Rat) - A.z - ((r.h : Rat) - B.z)) := by
          congr 1
          grind
        rw [e]
        rfl
theorem frac_case {a b : Rat} (ne : a ≠ b) : (0 < a / (a - b) ∧ a / (a - b) < 1) = ((0 < a ∧ b < 0) ∨ (a < 0 ∧ 0 < b)) := by
  by_cases d : 0 < a - b
  · rw [div_pos_iff d, div_lt1_iff d]
    apply propext
    grind
  · have d2 : 0 < -(a - b) := by grind
    rw [div_neg', div_pos_iff d2, div_lt1_iff d2]
    apply propext
    grind
theorem inWall_z {w : Nat} {P : Pt} (hw : w < r.n + 2) (h : r.inWall w P = true) : sd r w P = 0 := by
  unfold Room.inWall at h
  by_cases c1 : w < r.n
  · rw [if_pos c1] at h
    simp only [Bool.and_eq_true] at h
    unfold sd
    rw [if_neg (by omega), if_neg (by omega)]
    have h1 := h.1
    unfold onLine at h1
    simp only [Bool.and_eq_true, beq_iff_eq] at h1
    exact h1.1
  · rw [if_neg c1] at h
    simp only [Bool.and_eq_true] at h
    unfold sd
    have h2 := h.2
    by_cases c2 : w = r.n
    · rw [if_pos c2] at h2 ⊢
      simpa using h2
    · rw [if_neg c2] at h2 ⊢
      rw [if_pos (by omega)]
      have : P.z = (r.h : Rat) := by simpa using h2
      grind
theorem open_at (R : RoomOk r) (h : At q A) {w : Nat} (hw : w < r.n + 2) (hz : sd r w A = 0) : iOpen r w q = r.inWall w A := by
  unfold iOpen Room.inWall
  by_cases c1 : w < r.n
  · rw [if_neg (by omega), if_pos c1, height_at h]
    have hl : left (r.line w).1 (r.line w).2 A = 0 := by
      unfold sd at hz
      rw [if_neg (by omega), if_neg (by omega)] at hz
      exact hz
    have nd := line_nd R w
    have e := onLine_along (u := (r.line w).1) (v := (r.line w).2) (p := A) nd
    rw [show ((r.line w).1, (r.line w).2) = r.line w from rfl, decide_eq_true hl, Bool.true_and] at e
    rw [e]
    have S0 := sq_sum_pos nd
    have h2 := i_pos (iAlong r w q) h.wr (along_at h w)
    have h3 := i_pos (iSize r w * q.w - iAlong r w q) (a := dxR r w * dxR r w + dyR r w * dyR r w - (dxR r w * (A.x - ((r.corner w).x : Rat)) + dyR r w * (A.y - ((r.corner w).y : Rat)))) h.wr (by push_cast; rw [along_at h w, size_at]; grind)
    have h3' : (iAlong r w q < iSize r w * q.w) = (((r.line w).2.x - (r.line w).1.x) * (A.x - (r.line w).1.x) + ((r.line w).2.y - (r.line w).1.y) * (A.y - (r.line w).1.y) < ((r.line w).2.x - (r.line w).1.x) * ((r.line w).2.x - (r.line w).1.x) + ((r.line w).2.y - (r.line w).1.y) * ((r.line w).2.y - (r.line w).1.y)) := by
      apply propext
      constructor
      · intro k
        have := h3.mp (by omega)
        show dxR r w * (A.x - ((r.corner w).x : Rat)) + dyR r w * (A.y - ((r.corner w).y : Rat)) < dxR r w * dxR r w + dyR r w * dyR r w
        grind
      · intro k
        have k : dxR r w * (A.x - ((r.corner w).x : Rat)) + dyR r w * (A.y - ((r.corner w).y : Rat)) < dxR r w * dxR r w + dyR r w * dyR r w := k
        have := h3.mpr (by grind)
        omega
    have h2' : (0 < iAlong r w q) = (0 < ((r.line w).2.x - (r.line w).1.x) * (A.x - (r.line w).1.x) + ((r.line w).2.y - (r.line w).1.y) * (A.y - (r.line w).1.y)) := h2
    simp only [h2', h3']
    unfold isEnd
    unfold left at hl
    generalize (r.line w).1.x = ux at *
    generalize (r.line w).1.y = uy at *
    generalize (r.line w).2.x = vx at *
    generalize (r.line w).2.y = vy at *
    generalize A.x = x at *
    generalize A.y = y at *
    clear e h2 h3 h3' h2' hz
    have k0 : (vx - ux) * (x - ux) + (vy - uy) * (y - uy) = 0 → x = ux ∧ y = uy := fun k => by
      have k1 : (x - ux) * ((vx - ux) * (vx - ux) + (vy - uy) * (vy - uy)) = 0 := by grind
      have k2 : (y - uy) * ((vx - ux) * (vx - ux) + (vy - uy) * (vy - uy)) = 0 := by grind
      rw [mul_z_iff S0] at k1 k2
      exact ⟨by grind, by grind⟩
    have k9 : (vx - ux) * (x - ux) + (vy - uy) * (y - uy) = (vx - ux) * (vx - ux) + (vy - uy) * (vy - uy) → x = vx ∧ y = vy := fun k => by
      have k1 : (x - vx) * ((vx - ux) * (vx - ux) + (vy - uy) * (vy - uy)) = 0 := by grind
      have k2 : (y - vy) * ((vx - ux) * (vx - ux) + (vy - uy) * (vy - uy)) = 0 := by grind
      rw [mul_z_iff S0] at k1 k2
      exact ⟨by grind, by grind⟩
    have k1 : x = ux ∧ y = uy → (vx - ux) * (x - ux) + (vy - uy) * (y - uy) = 0 := fun k => by rw [k.1, k.2]; grind
    have k8 : x = vx ∧ y = vy → (vx - ux) * (x - ux) + (vy - uy) * (y - uy) = (vx - ux) * (vx - ux) + (vy - uy) * (vy - uy) := fun k => by rw [k.1, k.2]
    generalize (vx - ux) * (x - ux) + (vy - uy) * (y - uy) = D at *
    generalize (vx - ux) * (vx - ux) + (vy - uy) * (vy - uy) = S at *
    rw [Bool.eq_iff_iff]
    simp only [Bool.and_eq_true, Bool.or_eq_true, Bool.not_eq_true', Bool.or_eq_false_iff, Bool.and_eq_false_iff, decide_eq_true_eq, beq_iff_eq, beq_eq_false_iff_ne]
    constructor
    · rintro ⟨hh, a, b⟩
      refine ⟨⟨by grind, by grind⟩, ⟨?_, ?_⟩, hh⟩
      · by_cases z : x = ux
        · right
          intro z2
          have := k1 ⟨z, z2⟩
          grind
        · exact .inl z
      · by_cases z : x = vx
        · right
          intro z2
          have := k8 ⟨z, z2⟩
          grind
        · exact .inl z
    · rintro ⟨⟨a, b⟩, ⟨c, d⟩, hh⟩
      refine ⟨hh, ?_, ?_⟩
      · by_cases z : D = 0
        · have := k0 z
          rcases c with c | c
          · exact absurd this.1 c
          · exact absurd this.2 c
        · grind
      · by_cases z : D = S
        · have := k9 z
          rcases d with c | c
          · exact absurd this.1 c
          · exact absurd this.2 c
        · grind
  · rw [if_pos (by omega), if_neg c1, within_at R h]
    have e : (if w = r.n then A.z == 0 else A.z == (r.h : Rat)) = true := by
      unfold sd at hz
      by_cases c2 : w = r.n
      · rw [if_pos c2] at hz ⊢
        rw [hz]
        rfl
      · rw [if_neg c2, if_pos (by omega)] at hz
        rw [if_neg c2, show A.z = (r.h : Rat) by grind]
        exact beq_self_eq_true _
    rw [e, Bool.and_true]
theorem met_at (hp : At p A) (hq : At q B) (q1 : q.w = 1) {w : Nat} (ha : 0 < sd r w A) (hb : sd r w B < 0) : At (iMet r w p q) (onWay A B (sd r w A / (sd r w A - sd r w B))) := by
  unfold iMet
  dsimp only
  have sa := side_at (r := r) hp w
  have sb := side_at (r := r) hq w
  rw [q1] at sb
  have sb : ((iSide r w q : Int) : Rat) = sd r w B := by rw [sb]; show _ * (1 : Rat) = _; grind
  have na := (i_pos _ hp.wr sa).mpr ha
  have nb : iSide r w q < 0 := by
    rw [← sb] at hb
    exact_mod_cast hb
  have d0 : sd r w A - sd r w B ≠ 0 := by grind
  have e : sd r w A / (sd r w A - sd r w B) * (sd r w A - sd r w B) = sd r w A := Rat.div_mul_cancel d0
  have qx := hq.x
  have qy := hq.y
  have qz := hq.z
  rw [q1] at qx qy qz
  have one : ((1 : Int) : Rat) = 1 := rfl
  rw [one] at qx qy qz
  have px := hp.x
  have py := hp.y
  have pz := hp.z
  generalize sd r w A / (sd r w A - sd r w B) = t at *
  refine point_at ?_ ?_ ?_ ?_
  · have := Int.mul_pos hp.w (show 0 < -iSide r w q by omega)
    omega
  · unfold onWay; push_cast; rw [sa, sb]; grind
  · unfold onWay; push_cast; rw [sa, sb]; grind
  · unfold onWay; push_cast; rw [sa, sb]; grind
theorem met_nrm (hp : At p A) {w : Nat} (ha : 0 < iSide r w p) (hb : iSide r w q < 0) : Nrm (iMet r w p q) := by
  unfold iMet
  dsimp only
  refine nrm_point ?_
  have := Int.mul_pos hp.w (show 0 < -iSide r w q by omega)
  omega
end
end Rt
namespace Rt
open Eh
def pt1 (q : Q4) : Pt := ⟨(q.x : Rat), (q.y : Rat), (q.z : Rat)⟩
theorem at1 {q : Q4} (h : q.w = 1) : At q (pt1 q) := by
  have one : ((1 : Int) : Rat) = 1 := rfl
  refine ⟨by rw [h]; decide, ?_, ?_, ?_⟩ <;> rw [h, one, Rat.mul_one] <;> rfl
theorem rdir_of {r : Room} (R : RoomOk r) : RDir r := fun i => by
  have d := R.dir i
  unfold dirOk at d
  have ex : (r.line i).2.x - (r.line i).1.x = ((iDir r i).1 : Rat) := (dir_x r i).symm
  have ey : (r.line i).2.y - (r.line i).1.y = ((iDir r i).2 : Rat) := (dir_y r i).symm
  rw [ex, ey] at d
  simp only [Bool.and_eq_true, Bool.or_eq_true, Bool.not_eq_true', Bool.and_eq_false_iff, beq_iff_eq, beq_eq_false_iff_ne] at d
  obtain ⟨d1, d2⟩ := d
  have z : ∀ a : Int, ((a : Rat) = 0) = (a = 0) := fun a => by
    apply propext
    exact_mod_cast Iff.rfl
  constructor
  · rintro ⟨a, b⟩
    rcases d1 with h | h
    · exact h (by rw [a]; rfl)
    · exact h (by rw [b]; rfl)
  · rcases d2 with h | h | h | h
    · exact .inl (by rw [z] at h; exact h)
    · exact .inr (.inl (by rw [z] at h; exact h))
    · exact .inr (.inr (.inl (by exact_mod_cast h)))
    · exact .inr (.inr (.inr (by exact_mod_cast h)))
section
variable {r : Room} {p q s : Q4} {A B S : Pt}
theorem mir_at (R : RoomOk r) {w : Nat} (q1 : q.w = 1) : pt1 (iMir r w q) = r.mirror w (pt1 q) := by
  by_cases c1 : w < r.n
  · unfold Room.mirror
    rw [if_pos c1]
    dsimp only
    have ax : (r.line w).1.x = ((r.corner w).x : Rat) := rfl
    have ay : (r.line w).1.y = ((r.corner w).y : Rat) := rfl
    have bx : (r.line w).2.x = ((r.corner (w + 1)).x : Rat) := rfl
    have by_ : (r.line w).2.y = ((r.corner (w + 1)).y : Rat) := rfl
    rw [ax, ay, bx, by_]
    have d1 : (iDir r w).1 = (r.corner (w + 1)).x - (r.corner w).x := rfl
    have d2 : (iDir r w).2 = (r.corner (w + 1)).y - (r.corner w).y := rfl
    have nx : (iDir r w).1 ≠ 0 → ¬ (((r.corner w).x : Rat) = ((r.corner (w + 1)).x : Rat)) := fun h z => by rw [c_eq] at z; omega
    have ny : (iDir r w).2 ≠ 0 → ¬ (((r.corner w).y : Rat) = ((r.corner (w + 1)).y : Rat)) := fun h z => by rw [c_eq] at z; omega
    rcases mir_case (rdir_of R) c1 q1 with ⟨a, b, e⟩ | ⟨a, b, e⟩ | ⟨a, b, e⟩ | ⟨a, b, e⟩
    · rw [if_pos (by rw [c_eq]; omega), e]
      unfold pt1
      push_cast
      rfl
    · rw [if_neg (nx a), if_pos (by rw [c_eq]; omega), e]
      unfold pt1
      push_cast
      rfl
    · have b2 : (iDir r w).2 ≠ 0 := by omega
      rw [if_neg (nx a), if_neg (ny b2), if_pos (by rw [← Rat.intCast_sub, ← Rat.intCast_sub, c_eq]; omega), e]
      unfold pt1
      push_cast
      rfl
    · have b2 : (iDir r w).2 ≠ 0 := by omega
      rw [if_neg (nx a), if_neg (ny b2), if_neg (by rw [← Rat.intCast_sub, ← Rat.intCast_sub, c_eq]; omega), e]
      unfold pt1
      push_cast
      rfl
  · unfold Room.mirror iMir
    rw [if_neg c1]
    by_cases c2 : w = r.n
    · rw [if_pos c2, if_pos c2]
      unfold pt1
      push_cast
      rfl
    · rw [if_neg c2, if_neg c2, if_pos (by omega)]
      unfold pt1
      push_cast
      rfl
/-! ### backwards -/
theorem back_at (R : RoomOk r) (s1 : s.w = 1) : ∀ (m : List (Nat × Q4)) (p : Q4) (A : Pt) (l : List Pt), At p A → Nrm p → (∀ x ∈ m, x.1 < r.n + 2 ∧ x.2.w = 1 ∧ iSide r x.1 x.2 < 0) →
    iBack r s p m = (r.found (pt1 s) A (m.map fun x => (x.1, pt1 x.2)) l).isSome
  | [], p, A, l, hp, np, _ => by
    show iClear r s p = (if r.clear A (pt1 s) = true then some l else none).isSome
    rw [clear_at R (at1 s1) hp (nrm_one s1) np, clear_symm R]
    cases r.clear A (pt1 s) <;> rfl
  | (w, i) :: m, p, A, l, hp, np, h => by
    obtain ⟨h1, h2, h3⟩ := h (w, i) List.mem_cons_self
    dsimp only at h1 h2 h3
    have hi := at1 h2
    have sa := side_at (r := r) hp w
    have sb := side_at (r := r) hi w
    rw [h2] at sb
    have sb : ((iSide r w i : Int) : Rat) = sd r w (pt1 i) := by rw [sb]; show _ * (1 : Rat) = _; grind
    have nb : sd r w (pt1 i) < 0 := by rw [← sb]; exact_mod_cast h3
    have ea := i_np _ hp.wr sa
    show (if iSide r w p ≤ 0 then false else if iOpen r w (iMet r w p i) = false ∨ iClear r (iMet r w p i) p = false then false else iBack r s (iMet r w p i) m) = ((r.through w A (pt1 i)).bind fun (P : Pt) => if r.inWall w P = true ∧ r.clear A P = true then r.found (pt1 s) P (m.map fun x => (x.1, pt1 x.2)) (P :: l) else none).isSome
    rw [through_sd]
    by_cases c : iSide r w p ≤ 0
    · rw [if_pos c]
      have c' : sd r w A ≤ 0 := by rw [← ea]; exact c
      by_cases ne : sd r w A = sd r w (pt1 i)
      · rw [if_pos ne]; rfl
      · rw [if_neg ne, if_neg (by rw [frac_case ne]; grind)]; rfl
    · rw [if_neg c]
      have c' : 0 < sd r w A := by
        have : ¬ sd r w A ≤ 0 := by rw [← ea]; exact c
        grind
      have ne : sd r w A ≠ sd r w (pt1 i) := by grind
      rw [if_neg ne, if_pos (show 0 < sd r w A / (sd r w A - sd r w (pt1 i)) ∧ sd r w A / (sd r w A - sd r w (pt1 i)) < 1 by rw [frac_case ne]; exact .inl ⟨c', nb⟩)]
      have am := met_at hp hi h2 c' nb
      have nm : Nrm (iMet r w p i) := met_nrm hp (show 0 < iSide r w p by omega) h3
      have hz : sd r w (onWay A (pt1 i) (sd r w A / (sd r w A - sd r w (pt1 i)))) = 0 := by
        rw [sd_way]
        have e : sd r w A / (sd r w A - sd r w (pt1 i)) * (sd r w A - sd r w (pt1 i)) = sd r w A := Rat.div_mul_cancel (by grind)
        grind
      generalize onWay A (pt1 i) (sd r w A / (sd r w A - sd r w (pt1 i))) = P at *
      rw [open_at R am h1 hz, clear_at R am hp nm np, clear_symm R]
      show _ = (if r.inWall w P = true ∧ r.clear A P = true then r.found (pt1 s) P (m.map fun x => (x.1, pt1 x.2)) (P :: l) else none).isSome
      by_cases k1 : r.inWall w P = true
      · by_cases k2 : r.clear A P = true
        · rw [if_neg (show ¬ (r.inWall w P = false ∨ r.clear A P = false) by rw [k1, k2]; decide), if_pos (show r.inWall w P = true ∧ r.clear A P = true from ⟨k1, k2⟩)]
          exact back_at R s1 m _ P (P :: l) am nm fun x hx => h x (List.mem_cons_of_mem _ hx)
        · rw [if_pos (show r.inWall w P = false ∨ r.clear A P = false from .inr (by simpa using k2)), if_neg (show ¬ (r.inWall w P = true ∧ r.clear A P = true) from fun z => k2 z.2)]; rfl
      · rw [if_pos (show r.inWall w P = false ∨ r.clear A P = false from .inl (by simpa using k1)), if_neg (show ¬ (r.inWall w P = true ∧ r.clear A P = true) from fun z => k1 z.1)]; rfl
/-- images of the paths that there are lie behind their walls -/
theorem found_behind (R : RoomOk r) : ∀ (m : List (Nat × Pt)) (A : Pt) (l : List Pt), (∀ x ∈ m, x.1 < r.n + 2) → (r.found S A m l).isSome = true → ∀ x ∈ m, sd r x.1 x.2 < 0
  | [], _, _, _, _, x, hx => by simp at hx
  | (w, i) :: m, A, l, hw, h, x, hx => by
    have h' : ((r.through w A i).bind fun (P : Pt) => if r.inWall w P = true ∧ r.clear A P = true then r.found S P m (P :: l) else none).isSome = true := h
    have w2 : w < r.n + 2 := hw (w, i) List.mem_cons_self
    rw [through_sd] at h'
    by_cases ne : sd r w A = sd r w i
    · rw [if_pos ne] at h'; cases h'
    · rw [if_neg ne] at h'
      by_cases fr : 0 < sd r w A / (sd r w A - sd r w i) ∧ sd r w A / (sd r w A - sd r w i) < 1
      · rw [if_pos fr] at h'
        rw [frac_case ne] at fr
        have h' : (if r.inWall w (onWay A i (sd r w A / (sd r w A - sd r w i))) = true ∧ r.clear A (onWay A i (sd r w A / (sd r w A - sd r w i))) = true then r.found S (onWay A i (sd r w A / (sd r w A - sd r w i))) m (onWay A i (sd r w A / (sd r w A - sd r w i)) :: l) else none).isSome = true := h'
        generalize onWay A i (sd r w A / (sd r w A - sd r w i)) = P at h'
        by_cases k : r.inWall w P = true ∧ r.clear A P = true
        · rw [if_pos k] at h'
          rcases List.mem_cons.mp hx with e | hx
          · rw [e]
            have nn : ¬ sd r w A < 0 := by
              by_cases c1 : w < r.n
              · have := front R c1 k.1 k.2
                unfold sd
                rw [if_neg (by omega), if_neg (by omega)]
                exact this
              · have z := inWall_z w2 k.1
                have hc := k.2
                unfold Room.clear at hc
                simp only [Bool.or_eq_true, beq_iff_eq, Bool.and_eq_true, Bool.not_eq_true'] at hc
                rcases hc with e | ⟨_, hc⟩
                · rw [e, z]; grind
                · unfold Room.inside at hc
                  simp only [Bool.and_eq_true, decide_eq_true_eq] at hc
                  have h0 := hc.2.1
                  have h1 := hc.2.2
                  unfold onWay at h0 h1
                  dsimp only at h0 h1
                  unfold sd at z ⊢
                  by_cases c2 : w = r.n
                  · rw [if_pos c2] at z ⊢
                    rw [z] at h0
                    grind
                  · rw [if_neg c2, if_pos (by omega)] at z ⊢
                    grind
            show sd r w i < 0
            grind
          · exact found_behind R m P (P :: l) (fun y hy => hw y (List.mem_cons_of_mem _ hy)) h' x hx
        · rw [if_neg k] at h'; cases h'
      · rw [if_neg fr] at h'; cases h'
/-! ### rows of walls with their images -/
def imgs (r : Room) : Q4 → List Nat → List Q4
  | _, [] => []
  | s, w :: l => iMir r w s :: imgs r (iMir r w s) l
def okRow (r : Room) : Q4 → List Nat → Bool
  | _, [] => true
  | s, w :: l => decide (0 < iSide r w s) && okRow r (iMir r w s) l
theorem last_cons {s a : Q4} {l : List Q4} : lastOr s (a :: l) = lastOr a l := by
  unfold lastOr
  rw [List.getLastD_cons]
theorem imgs_snoc (r : Room) : ∀ (l : List Nat) (s : Q4) (w : Nat), imgs r s (l ++ [w]) = imgs r s l ++ [iMir r w (lastOr s (imgs r s l))]
  | [], s, w => rfl
  | v :: l, s, w => by
    show iMir r v s :: imgs r (iMir r v s) (l ++ [w]) = iMir r v s :: (imgs r (iMir r v s) l ++ [iMir r w (lastOr s (iMir r v s :: imgs r (iMir r v s) l))])
    rw [imgs_snoc r l, last_cons]
theorem okRow_snoc (r : Room) : ∀ (l : List Nat) (s : Q4) (w : Nat), okRow r s (l ++ [w]) = (okRow r s l && decide (0 < iSide r w (lastOr s (imgs r s l))))
  | [], s, w => by
    show (decide (0 < iSide r w s) && true) = (true && decide (0 < iSide r w s))
    rw [Bool.and_true, Bool.true_and]
  | v :: l, s, w => by
    show (decide (0 < iSide r v s) && okRow r (iMir r v s) (l ++ [w])) = ((decide (0 < iSide r v s) && okRow r (iMir r v s) l) && decide (0 < iSide r w (lastOr s (iMir r v s :: imgs r (iMir r v s) l))))
    rw [okRow_snoc r l, last_cons, Bool.and_assoc]
theorem imgs_len (r : Room) : ∀ (l : List Nat) (s : Q4), (imgs r s l).length = l.length
  | [], _ => rfl
  | _ :: l, s => by
    show (imgs r _ l).length + 1 = l.length + 1
    rw [imgs_len r l]
theorem imgs_w (r : Room) : ∀ (l : List Nat) (s : Q4), ∀ q ∈ imgs r s l, q.w = 1
  | [], _, q, h => by simp [imgs] at h
  | w :: l, s, q, h => by
    rcases List.mem_cons.mp (show q ∈ iMir r w s :: imgs r (iMir r w s) l from h) with e | h
    · rw [e]; exact mir_w
    · exact imgs_w r l _ q h
/-- the rows that the program follows -/
theorem rows_eq (r : Room) (s : Q4) : ∀ k, iRows r s k = ((Eh.rowsOf (r.n + 2) k).filter (okRow r s)).map fun l => (l, imgs r s l)
  | 0 => rfl
  | k + 1 => by
    show (iRows r s k).flatMap (iLonger r s) = _
    rw [rows_eq r s k]
    have key : ∀ L : List (List Nat), ((L.filter (okRow r s)).map fun l => (l, imgs r s l)).flatMap (iLonger r s) = ((L.flatMap fun (l : List Nat) => (List.range (r.n + 2)).map fun (w : Nat) => l ++ [w]).filter (okRow r s)).map fun l => (l, imgs r s l) := by
      intro L
      induction L with
      | nil => rfl
      | cons l L ih =>
        rw [List.flatMap_cons, List.filter_append, List.map_append, ← ih]
        have e : ((List.range (r.n + 2)).map fun (w : Nat) => l ++ [w]).filter (okRow r s) = if okRow r s l = true then ((List.range (r.n + 2)).filter fun w => decide (0 < iSide r w (lastOr s (imgs r s l)))).map fun w => l ++ [w] else [] := by
          rw [List.filter_map]
          by_cases c : okRow r s l = true
          · rw [if_pos c]
            congr 1
            refine List.filter_congr fun w _ => ?_
            show okRow r s (l ++ [w]) = _
            rw [okRow_snoc, c, Bool.true_and]
          · rw [if_neg c]
            have e2 : (List.range (r.n + 2)).filter (okRow r s ∘ fun w => l ++ [w]) = [] := by
              rw [List.filter_eq_nil_iff]
              intro w _
              show ¬ okRow r s (l ++ [w]) = true
              rw [okRow_snoc]
              simp [c]
            rw [e2]
            rfl
        rw [e]
        by_cases c : okRow r s l = true
        · rw [if_pos c, List.filter_cons_of_pos c, List.map_cons, List.flatMap_cons]
          congr 1
          unfold iLonger
          rw [List.map_map]
          refine List.map_congr_left fun w _ => ?_
          show (l ++ [w], imgs r s l ++ [iMir r w (lastOr s (imgs r s l))]) = (l ++ [w], imgs r s (l ++ [w]))
          rw [imgs_snoc]
        · rw [if_neg c, List.filter_cons_of_neg c]
          rfl
    exact key _
theorem rowsOf_mem {n : Nat} : ∀ (k : Nat) (l : List Nat), l ∈ Eh.rowsOf n k → l.length = k ∧ ∀ w ∈ l, w < n
  | 0, l, h => by
    have : l = [] := List.mem_singleton.mp h
    subst this
    exact ⟨rfl, fun w hw => by simp at hw⟩
  | k + 1, l, h => by
    obtain ⟨m, h1, h2⟩ := List.mem_flatMap.mp h
    obtain ⟨w, h3, rfl⟩ := List.mem_map.mp h2
    obtain ⟨h4, h5⟩ := rowsOf_mem k m h1
    refine ⟨by rw [List.length_append, h4]; rfl, fun v hv => ?_⟩
    rcases List.mem_append.mp hv with hv | hv
    · exact h5 v hv
    · rw [List.mem_singleton.mp hv]
      exact List.mem_range.mp h3
/-- the specification's images -/
theorem images_eq (R : RoomOk r) : ∀ (l : List Nat) (s : Q4) (M : List Pt), s.w = 1 → l.foldl (fun (m : List Pt) (w : Nat) => r.mirror w (m.headD (pt1 s)) :: m) (pt1 s :: M) = ((imgs r s l).map pt1).reverse ++ pt1 s :: M
  | [], s, M, _ => rfl
  | w :: l, s, M, s1 => by
    rw [List.foldl_cons]
    show l.foldl (fun (m : List Pt) (w : Nat) => r.mirror w (m.headD (pt1 s)) :: m) (r.mirror w (pt1 s) :: pt1 s :: M) = _
    rw [← mir_at R s1]
    have e : ∀ (l : List Nat) (N : List Pt) (x a b : Pt), l.foldl (fun (m : List Pt) (w : Nat) => r.mirror w (m.headD a) :: m) (x :: N) = l.foldl (fun (m : List Pt) (w : Nat) => r.mirror w (m.headD b) :: m) (x :: N) := by
      intro l
      induction l with
      | nil => intros; rfl
      | cons v l ih =>
        intro N x a b
        rw [List.foldl_cons, List.foldl_cons]
        exact ih _ _ _ _
    rw [e l _ _ (pt1 s) (pt1 (iMir r w s)), images_eq R l (iMir r w s) (pt1 s :: M) mir_w]
    show _ = ((pt1 (iMir r w s) :: (imgs r (iMir r w s) l).map pt1)).reverse ++ pt1 s :: M
    rw [List.reverse_cons, List.append_assoc]
    rfl
theorem zip_append_left {α β : Type} : ∀ (a : List α) (b c : List β), a.length = b.length → List.zip a (b ++ c) = List.zip a b
  | [], b, c, _ => by simp
  | x :: a, [], c, h => by simp at h
  | x :: a, y :: b, c, h => by
    rw [List.cons_append, List.zip_cons_cons, List.zip_cons_cons, zip_append_left a b c (by simpa using h)]
theorem zip_reverse' {α β : Type} : ∀ (a : List α) (b : List β), a.length = b.length → List.zip a.reverse b.reverse = (List.zip a b).reverse
  | [], [], _ => rfl
  | [], _ :: _, h => by simp at h
  | _ :: _, [], h => by simp at h
  | x :: a, y :: b, h => by
    have h' : a.length = b.length := by simpa using h
    rw [List.reverse_cons, List.reverse_cons, List.zip_cons_cons, List.reverse_cons, ← zip_reverse' a b h']
    have : List.zip (a.reverse ++ [x]) (b.reverse ++ [y]) = List.zip a.reverse b.reverse ++ List.zip [x] [y] := List.zip_append (by simpa using h')
    rw [this]
    rfl
theorem side_neg (R : RoomOk r) : ∀ (l : List Nat) (s : Q4), s.w = 1 → okRow r s l = true → ∀ x ∈ List.zip l (imgs r s l), iSide r x.1 x.2 < 0
  | [], _, _, _, x, hx => by simp [imgs] at hx
  | w :: l, s, s1, h, x, hx => by
    have h' : (decide (0 < iSide r w s) && okRow r (iMir r w s) l) = true := h
    rw [Bool.and_eq_true, decide_eq_true_eq] at h'
    rcases List.mem_cons.mp (show x ∈ (w, iMir r w s) :: List.zip l (imgs r (iMir r w s) l) from hx) with e | hx
    · rw [e]
      show iSide r w (iMir r w s) < 0
      rw [mir_side (rdir_of R) s1]
      omega
    · exact side_neg R l (iMir r w s) mir_w h'.2 x hx
theorem okRow_of (R : RoomOk r) : ∀ (l : List Nat) (s : Q4), s.w = 1 → (∀ x ∈ List.zip l (imgs r s l), iSide r x.1 x.2 < 0) → okRow r s l = true
  | [], _, _, _ => rfl
  | w :: l, s, s1, h => by
    show (decide (0 < iSide r w s) && okRow r (iMir r w s) l) = true
    have h0 := h (w, iMir r w s) List.mem_cons_self
    have h0 : iSide r w (iMir r w s) < 0 := h0
    rw [mir_side (rdir_of R) s1] at h0
    rw [Bool.and_eq_true, decide_eq_true_eq]
    exact ⟨by omega, okRow_of R l (iMir r w s) mir_w fun x hx => h x (List.mem_cons_of_mem _ hx)⟩
/-- the specification's paths are the program's -/
theorem isPath_at (R : RoomOk r) {e : Q4} (s1 : s.w = 1) (e1 : e.w = 1) (is : r.inside (pt1 s) = true) (ie : r.inside (pt1 e) = true) {l : List Nat} (hl : ∀ w ∈ l, w < r.n + 2) :
    r.isPath (pt1 s) (pt1 e) l = (okRow r s l && iIsPath r s l (imgs r s l) e) := by
  unfold Room.isPath Room.turns
  have hall : (l.all fun (w : Nat) => decide (w < r.walls)) = true := List.all_eq_true.mpr fun w hw => decide_eq_true (hl w hw)
  rw [if_pos ⟨is, ie, hall⟩]
  have ez : List.zip l.reverse (r.images (pt1 s) l) = ((List.zip l (imgs r s l)).reverse).map fun x => (x.1, pt1 x.2) := by
    unfold Room.images
    rw [images_eq R l s [] s1]
    rw [zip_append_left _ _ _ (by simp [imgs_len]), ← zip_reverse' _ _ (imgs_len r l s).symm, ← List.map_reverse]
    rw [List.zip_map_right]
    rfl
  rw [ez]
  have hw : ∀ x ∈ (List.zip l (imgs r s l)).reverse, x.1 < r.n + 2 ∧ x.2.w = 1 := fun x hx => by
    have hx := List.mem_reverse.mp hx
    exact ⟨hl _ (List.of_mem_zip hx).1, imgs_w r l s _ (List.of_mem_zip hx).2⟩
  cases c : okRow r s l with
  | true =>
    rw [Bool.true_and]
    unfold iIsPath
    exact (back_at R s1 _ e (pt1 e) [] (at1 e1) (nrm_one e1) fun x hx => ⟨(hw x hx).1, (hw x hx).2, side_neg R l s s1 c x (List.mem_reverse.mp hx)⟩).symm
  | false =>
    rw [Bool.false_and]
    cases k : (r.found (pt1 s) (pt1 e) (((List.zip l (imgs r s l)).reverse).map fun x => (x.1, pt1 x.2)) []).isSome with
    | false => rfl
    | true =>
      exfalso
      have b := found_behind R _ _ _ (fun x hx => by
        obtain ⟨y, hy, rfl⟩ := List.mem_map.mp hx
        exact (hw y hy).1) k
      have : okRow r s l = true := okRow_of R l s s1 fun x hx => by
        have := b (x.1, pt1 x.2) (List.mem_map.mpr ⟨x, List.mem_reverse.mpr hx, rfl⟩)
        have xw := imgs_w r l s _ (List.of_mem_zip hx).2
        have sb := side_at (r := r) (at1 xw) x.1
        exact (i_neg _ (at1 xw).wr sb).mpr this
      rw [c] at this
      cases this
end
end Rt
namespace Rt
open Eh
section
variable {r : Room} {s e : Q4}
theorem insertBy_perm {α : Type} (f : α → α → Bool) (x : α) : ∀ l : List α, (insertBy f x l).Perm (x :: l)
  | [] => List.Perm.refl _
  | y :: l => by
    unfold insertBy
    split
    · exact List.Perm.refl _
    · exact ((insertBy_perm f x l).cons y).trans (List.Perm.swap x y l)
theorem sort_perm {α : Type} (f : α → α → Bool) : ∀ l : List α, (l.foldr (insertBy f) []).Perm l
  | [] => List.Perm.refl _
  | x :: l => (insertBy_perm f x _).trans ((sort_perm f l).cons x)
theorem dist_at {a b : Q4} : dist2 (pt1 a) (pt1 b) = ((iSquare a b : Int) : Rat) := by
  unfold dist2 iSquare pt1
  push_cast
  grind
theorem length2_at (R : RoomOk r) (s1 : s.w = 1) (l : List Nat) : (r.length2 (pt1 s) (pt1 e) l).floor = iSquare (lastOr s (imgs r s l)) e := by
  unfold Room.length2 Room.images
  rw [images_eq R l s [] s1]
  have h : (((imgs r s l).map pt1).reverse ++ [pt1 s]).headD (pt1 s) = pt1 (lastOr s (imgs r s l)) := by
    generalize imgs r s l = m
    unfold lastOr
    rcases List.eq_nil_or_concat m with h | ⟨m', x, h⟩
    · subst h; rfl
    · subst h
      simp
  rw [h, dist_at, Rat.floor_intCast]
def toP (p : PathI) : Eh.Path := ⟨p.square, p.walls⟩
theorem paths_perm (R : RoomOk r) (s1 : s.w = 1) (e1 : e.w = 1) (is : r.inside (pt1 s) = true) (ie : r.inside (pt1 e) = true) (most : Nat) : (r.paths (pt1 s) (pt1 e) most).Perm ((iPaths r s e most).map toP) := by
  unfold Room.paths
  refine (sort_perm _ _).trans ?_
  have : (((List.range (most + 1)).flatMap fun (k : Nat) => (Eh.rowsOf r.walls k).filter (r.isPath (pt1 s) (pt1 e))).map fun (l : List Nat) => (⟨(r.length2 (pt1 s) (pt1 e) l).floor, l⟩ : Eh.Path)) = (iPaths r s e most).map toP := by
    unfold iPaths
    rw [List.map_flatMap, List.map_flatMap]
    congr 1
    funext k
    unfold iFound
    rw [rows_eq, List.filter_map, List.map_map, List.map_map, List.filter_filter]
    have ef : (Eh.rowsOf r.walls k).filter (r.isPath (pt1 s) (pt1 e)) = (Eh.rowsOf (r.n + 2) k).filter fun l => ((fun row : Rowi => iIsPath r s row.1 row.2 e) ∘ fun l => (l, imgs r s l)) l && okRow r s l := by
      show (Eh.rowsOf (r.n + 2) k).filter (r.isPath (pt1 s) (pt1 e)) = _
      refine List.filter_congr fun l hl => ?_
      rw [isPath_at R s1 e1 is ie (rowsOf_mem k l hl).2, Bool.and_comm]
      rfl
    rw [ef]
    refine List.map_congr_left fun l _ => ?_
    rw [length2_at R s1]
    rfl
  rw [this]
/-! ### books, gains -/
theorem near_bd {t b c : Nat} (h : 4 * t / b < (2 * c) * (2 * c)) : iNear t b ≤ c := by
  unfold iNear
  have h1 := (root_spec (4 * t / b)).1
  have : Eh.root (4 * t / b) < 2 * c := by
    refine Nat.lt_of_not_le fun z => ?_
    have := sq_mono z
    omega
  omega
theorem delay_at (q a b : Nat) : iDelay q a b = Eh.delay q a b := by
  unfold iDelay iNear Eh.delay
  rw [show 4 * (q * a * a) = 4 * q * a * a by simp only [Nat.mul_assoc]]
theorem topW_le {book : List Nat} {band : Nat} (few : ∀ x ∈ book, x ≤ 32768) (walls : List Nat) : topW r book band walls ≤ 32768 ^ walls.length := by
  have key : ∀ (l : List Nat) (t m : Nat), t ≤ 32768 ^ m → l.foldl (fun t w => t * book.getD (stuffN r w * 4 + band) 0) t ≤ 32768 ^ (m + l.length) := by
    intro l
    induction l with
    | nil => intro t m h; exact h
    | cons w l ih =>
      intro t m h
      rw [List.foldl_cons, List.length_cons, show m + (l.length + 1) = (m + 1) + l.length by omega]
      refine ih _ _ ?_
      rw [Nat.pow_succ]
      refine Nat.mul_le_mul h ?_
      rw [List.getD_eq_getElem?_getD]
      cases e : book[stuffN r w * 4 + band]? with
      | none => exact Nat.zero_le _
      | some x => exact few x (List.mem_of_getElem? e)
  have := key walls 1 0 (by decide)
  rw [Nat.zero_add] at this
  exact this
theorem gain_bd {book : List Nat} {band sq : Nat} {walls : List Nat} (few : ∀ x ∈ book, x ≤ 32768) : ((iGain r book band sq walls : Nat) : Int) ≤ LOUD := by
  have key : iGain r book band sq walls ≤ 8589934592 := by
    unfold iGain
    dsimp only
    refine near_bd ?_
    have h1 := topW_le (r := r) (band := band) few walls
    have h2 : book.getD (32 + band) 0 ^ iFar sq ≤ 32768 ^ iFar sq := by
      refine Nat.pow_le_pow_left ?_ _
      rw [List.getD_eq_getElem?_getD]
      cases e : book[32 + band]? with
      | none => exact Nat.zero_le _
      | some x => exact few x (List.mem_of_getElem? e)
    have h3 := Nat.mul_le_mul h1 h2
    rw [← Nat.pow_add] at h3
    have h4 : 2 ^ (2 * (15 * (walls.length + iFar sq))) = 32768 ^ (walls.length + iFar sq) * 32768 ^ (walls.length + iFar sq) := by
      rw [show (32768 : Nat) = 2 ^ 15 by decide, ← Nat.pow_mul, ← Nat.pow_add]
      congr 1
      omega
    rw [h4]
    generalize topW r book band walls * book.getD (32 + band) 0 ^ iFar sq = T at *
    generalize 32768 ^ (walls.length + iFar sq) = P at *
    have h5 := Nat.mul_le_mul h3 h3
    have q1 : 1 ≤ max 1 sq := by omega
    generalize max 1 sq = q at *
    have pp : 0 < P * P ∨ P * P = 0 := by omega
    have h6 : P * P ≤ q * (P * P) := Nat.le_mul_of_pos_left _ q1
    rw [show (2 : Nat) ^ 64 = 18446744073709551616 by decide]
    rcases pp with pp | pp
    · rw [Nat.div_lt_iff_lt_mul (by omega)]
      omega
    · have : q * (P * P) = 0 := by rw [pp, Nat.mul_zero]
      rw [this, Nat.div_zero]
      decide
  have L : LOUD = 1099511627776 := by decide
  omega
theorem stuff_at (R : RoomOk r) {w : Nat} : r.stuff w = stuffN r w := by
  unfold Room.stuff stuffN
  by_cases c : w < r.n
  · rw [if_pos c, if_pos c]
    unfold Room.corner
    rw [Nat.mod_eq_of_lt c]
  · rw [if_neg c, if_neg c]
theorem stuff_lt (R : RoomOk r) (w : Nat) : stuffN r w < 8 := by
  unfold stuffN
  split
  · rename_i c
    have := (R.crn w).2.2.2.2
    unfold Room.corner at this
    rw [Nat.mod_eq_of_lt c] at this
    exact this
  · split
    · exact R.fl
    · exact R.ce
theorem foldr_mul (l : List Nat) (a : Nat) : l.foldr (fun (x y : Nat) => x * y) a = l.foldr (fun (x y : Nat) => x * y) 1 * a := by
  induction l with
  | nil => rw [List.foldr_nil, List.foldr_nil, Nat.one_mul]
  | cons x l ih => rw [List.foldr_cons, List.foldr_cons, ih, Nat.mul_assoc]
theorem gain_at (R : RoomOk r) {book : List Nat} (b36 : book.length = 36) {band : Nat} (b3 : band ≤ 3) (sq : Nat) (walls : List Nat) : iGain r book band sq walls = Eh.gain r ⟨book.take (BANDS * STUFFS), book.drop (BANDS * STUFFS)⟩ band sq walls := by
  unfold iGain Eh.gain part nearestOverRoot iNear
  dsimp only
  have e32 : BANDS * STUFFS = 32 := rfl
  have ew : WHOLE = 2 ^ 15 := rfl
  have ef : farBy sq = root sq / 1024 := rfl
  have far : iFar sq = farBy sq := by
    unfold iFar farBy
    by_cases z : sq = 0
    · subst z; decide
    · rw [show max 1 sq = sq by omega]
  have ea : Book.airOf ⟨book.take (BANDS * STUFFS), book.drop (BANDS * STUFFS)⟩ band = book.getD (32 + band) 0 := by
    unfold Book.airOf
    dsimp only
    rw [e32, List.getD_eq_getElem?_getD, List.getD_eq_getElem?_getD, List.getElem?_drop]
  have eb : ∀ w, Book.backOf ⟨book.take (BANDS * STUFFS), book.drop (BANDS * STUFFS)⟩ (r.stuff w) band = book.getD (stuffN r w * 4 + band) 0 := fun w => by
    unfold Book.backOf
    dsimp only
    have := stuff_lt R w
    have e4 : BANDS = 4 := rfl
    rw [e32, stuff_at R, e4, List.getD_eq_getElem?_getD, List.getD_eq_getElem?_getD, List.getElem?_take, if_pos (by omega), Nat.mul_comm]
  have et : ∀ (l : List Nat) (t : Nat), l.foldl (fun t w => t * book.getD (stuffN r w * 4 + band) 0) t = t * (l.map fun (w : Nat) => Book.backOf ⟨book.take (BANDS * STUFFS), book.drop (BANDS * STUFFS)⟩ (r.stuff w) band).foldr (fun (x y : Nat) => x * y) 1 := by
    intro l
    induction l with
    | nil => intro t; rw [List.foldl_nil, List.map_nil, List.foldr_nil, Nat.mul_one]
    | cons w l ih =>
      intro t
      rw [List.foldl_cons, ih, List.map_cons, List.foldr_cons, eb, Nat.mul_assoc]
  have er : ∀ (n x : Nat), (List.replicate n x).foldr (fun (x y : Nat) => x * y) 1 = x ^ n := by
    intro n x
    induction n with
    | zero => rfl
    | succ n ih => rw [List.replicate_succ, List.foldr_cons, ih, Nat.pow_succ, Nat.mul_comm]
  rw [List.foldr_append, foldr_mul, er, ea, ← far]
  have etop : topW r book band walls = (walls.map fun (w : Nat) => Book.backOf ⟨book.take (BANDS * STUFFS), book.drop (BANDS * STUFFS)⟩ (r.stuff w) band).foldr (fun (x y : Nat) => x * y) 1 := by
    unfold topW
    rw [et, Nat.one_mul]
  rw [← etop, List.length_append, List.length_map, List.length_replicate, Nat.max_comm sq 1]
  generalize topW r book band walls * book.getD (32 + band) 0 ^ iFar sq = T
  generalize max 1 sq = q
  have e1 : 2 ^ (2 * (15 * (walls.length + iFar sq))) = WHOLE ^ (walls.length + iFar sq) * WHOLE ^ (walls.length + iFar sq) := by
    rw [ew, ← Nat.pow_mul, ← Nat.pow_add]
    congr 1
    omega
  rw [e1]
  generalize WHOLE ^ (walls.length + iFar sq) = D
  have e2 : 4 * (T * T * 2 ^ 64) = 4 * (2 ^ 32 * T) * (2 ^ 32 * T) := by
    rw [show (2 : Nat) ^ 64 = 2 ^ 32 * 2 ^ 32 by decide]
    generalize (2 : Nat) ^ 32 = X
    grind
  rw [e2, Nat.mul_comm q]
/-! ### taps of paths in another order -/
theorem sumG_perm {a b : List (Nat × Nat)} (h : a.Perm b) (d : Nat) : sumG a d = sumG b d := by
  unfold sumG
  have := (h.filter fun p => decide (p.1 = d)).map (·.2)
  exact this.sum_nat
theorem keys_perm {a b : List (Nat × Nat)} (h : a.Perm b) : (keysN a).Perm (keysN b) := by
  rw [List.perm_ext_iff_of_nodup (keysN_nodup a) (keysN_nodup b)]
  intro d
  rw [mem_keysN, mem_keysN]
  exact ⟨fun ⟨p, h1, h2⟩ => ⟨p, h.mem_iff.mp h1, h2⟩, fun ⟨p, h1, h2⟩ => ⟨p, h.mem_iff.mpr h1, h2⟩⟩
theorem taps_perm {a b : List (Nat × Nat)} (h : a.Perm b) (k : ∀ p ∈ a, (p.2 : Int) ≤ LOUD) : tapsOf (a.map mkTap) = tapsOf (b.map mkTap) := by
  have srt : ∃ ys : List Nat, ys.Perm (keysN a) ∧ ys.Pairwise (· ≤ ·) := by
    refine ⟨(keysN a).mergeSort (fun x y => decide (x ≤ y)), List.mergeSort_perm _ _, ?_⟩
    refine (List.pairwise_mergeSort (le := fun x y : Nat => decide (x ≤ y)) (fun x y z h1 h2 => ?_) (fun x y => ?_) (keysN a)).imp fun {x y} q => of_decide_eq_true q
    · have := of_decide_eq_true h1
      have := of_decide_eq_true h2
      exact decide_eq_true (by omega)
    · rw [Bool.or_eq_true, decide_eq_true_eq, decide_eq_true_eq]
      exact Nat.le_total x y
  obtain ⟨ys, y1, y2⟩ := srt
  have h1 := taps_law k y1 y2
  have h2 := taps_law (fun p hp => k p (h.mem_iff.mpr hp)) (y1.trans (keys_perm h)) y2
  have e : ((ys.filter fun d => decide (sumG a d ≠ 0)).map fun d => (d, min LOUD ((sumG a d : Nat) : Int))) = ((ys.filter fun d => decide (sumG b d ≠ 0)).map fun d => (d, min LOUD ((sumG b d : Nat) : Int))) := by
    simp only [sumG_perm h]
  rw [e, h2] at h1
  have inj : ∀ (x y : List Tap), x.map (fun t => (t.delay, t.gain)) = y.map (fun t => (t.delay, t.gain)) → x = y := by
    intro x
    induction x with
    | nil => intro y h; cases y with
      | nil => rfl
      | cons _ _ => cases h
    | cons t x ih => intro y h; cases y with
      | nil => cases h
      | cons u y =>
        rw [List.map_cons, List.map_cons] at h
        obtain ⟨h1, h2⟩ := List.cons.inj h
        obtain ⟨td, tg⟩ := t
        obtain ⟨ud, ug⟩ := u
        obtain ⟨e1, e2⟩ := Prod.mk.inj h1
        dsimp only at e1 e2
        rw [e1, e2, ih y h2]
  exact (inj _ _ h1).symm
end
end Rt
namespace Rt
open Eh
/-! # The room that a list tells -/
theorem corners_some : ∀ (n : Nat) (r : List Int), r.length = 3 * n → cornersOf r = some ((List.range n).map fun i => (⟨r.getD (3 * i) 0, r.getD (3 * i + 1) 0, stuffOf (r.getD (3 * i + 2) 0)⟩ : Corner))
  | 0, [], _ => rfl
  | 0, _ :: _, h => by simp at h
  | n + 1, [], h => by simp at h
  | n + 1, [_], h => by simp at h; omega
  | n + 1, [_, _], h => by simp at h; omega
  | n + 1, x :: y :: z :: r, h => by
    have h' : r.length = 3 * n := by simp at h; omega
    unfold cornersOf
    rw [corners_some n r h', List.range_succ_eq_map, List.map_cons, List.map_map]
    show some _ = some _
    congr 2
theorem corners_none : ∀ (r : List Int), r.length % 3 ≠ 0 → cornersOf r = none
  | [], h => by simp at h
  | [_], _ => rfl
  | [_, _], _ => rfl
  | x :: y :: z :: r, h => by
    have h' : r.length % 3 ≠ 0 := by simp at h; omega
    unfold cornersOf
    rw [corners_none r h']
    rfl
theorem find_congr {n : Nat} {p q : Nat → Bool} (h : ∀ i, i < n → p i = q i) : (List.range n).find? p = (List.range n).find? q := by
  have key : ∀ l : List Nat, (∀ i ∈ l, i < n) → l.find? p = l.find? q := by
    intro l
    induction l with
    | nil => intro _; rfl
    | cons x l ih =>
      intro hl
      rw [List.find?_cons, List.find?_cons, h x (hl x List.mem_cons_self), ih fun i hi => hl i (List.mem_cons_of_mem _ hi)]
  exact key _ fun i hi => List.mem_range.mp hi
section
variable {r : Room}
theorem dirOk_at (r : Room) (i : Nat) : dirOk (r.line i) = iHasDir (iDir r i) := by
  unfold dirOk iHasDir
  have ex : (r.line i).2.x - (r.line i).1.x = ((iDir r i).1 : Rat) := (dir_x r i).symm
  have ey : (r.line i).2.y - (r.line i).1.y = ((iDir r i).2 : Rat) := (dir_y r i).symm
  dsimp only
  rw [ex, ey]
  generalize (iDir r i).1 = a
  generalize (iDir r i).2 = b
  have z : ∀ c : Int, ((c : Rat) == 0) = decide (c = 0) := fun c => by
    rw [Bool.eq_iff_iff, beq_iff_eq, decide_eq_true_iff]
    exact_mod_cast Iff.rfl
  have e1 : ((a : Rat) == (b : Rat)) = decide (a = b) := by
    rw [Bool.eq_iff_iff, beq_iff_eq, decide_eq_true_iff]
    exact_mod_cast Iff.rfl
  have e2 : ((a : Rat) == -(b : Rat)) = decide (a = -b) := by
    rw [Bool.eq_iff_iff, beq_iff_eq, decide_eq_true_iff]
    exact_mod_cast Iff.rfl
  rw [z, z, e1, e2]
  congr 2
  rw [Bool.eq_iff_iff]
  simp only [Bool.or_eq_true, decide_eq_true_eq]
  omega
theorem nd_of {i : Nat} (h : iHasDir (iDir r i) = true) : (r.line i).2.x - (r.line i).1.x ≠ 0 ∨ (r.line i).2.y - (r.line i).1.y ≠ 0 := by
  rw [← dirOk_at] at h
  unfold dirOk at h
  simp only [Bool.and_eq_true, Bool.not_eq_true', Bool.and_eq_false_iff, beq_eq_false_iff_ne] at h
  exact h.1
theorem along_at2 (r : Room) (i : Nat) : alongside (r.line i) (r.line (i + 1)) = decide (iCross (iDir r i) (iDir r ((i + 1) % r.n)) = 0) := by
  have em : iDir r ((i + 1) % r.n) = iDir r (i + 1) := by
    unfold iDir
    rw [corner_mod1, corner_mod]
  rw [em]
  unfold alongside
  rw [Bool.eq_iff_iff, beq_iff_eq, decide_eq_true_iff]
  have e : ((iCross (iDir r i) (iDir r (i + 1)) : Int) : Rat) = ((r.line i).2.x - (r.line i).1.x) * ((r.line (i + 1)).2.y - (r.line (i + 1)).1.y) - ((r.line i).2.y - (r.line i).1.y) * ((r.line (i + 1)).2.x - (r.line (i + 1)).1.x) := by
    unfold iCross
    push_cast
    rw [dir_x, dir_y, dir_x, dir_y]
    rfl
  rw [← e]
  exact_mod_cast Iff.rfl
theorem apart_at {i j : Nat} (n3 : 3 ≤ r.n) (hi : i < r.n) (hj : j < r.n) : iApart r i j = !neighbours r.n i j := by
  unfold iApart neighbours
  dsimp only
  congr 1
  have key : ((i : Int) - (j : Int)) % (r.n : Int) = if j ≤ i then ((i - j : Nat) : Int) else ((i + r.n - j : Nat) : Int) := by
    split
    · rw [show (i : Int) - (j : Int) = ((i - j : Nat) : Int) by omega]
      exact Int.emod_eq_of_lt (by omega) (by omega)
    · rw [show (i : Int) - (j : Int) = ((i + r.n - j : Nat) : Int) + (r.n : Int) * (-1) by omega, Int.add_mul_emod_self_left]
      exact Int.emod_eq_of_lt (by omega) (by omega)
  have m1 : (i + 1) % r.n = if i + 1 = r.n then 0 else i + 1 := by
    split
    · rename_i h; rw [h, Nat.mod_self]
    · exact Nat.mod_eq_of_lt (by omega)
  have m2 : (j + 1) % r.n = if j + 1 = r.n then 0 else j + 1 := by
    split
    · rename_i h; rw [h, Nat.mod_self]
    · exact Nat.mod_eq_of_lt (by omega)
  rw [key, m1, m2, Bool.eq_iff_iff]
  simp only [Bool.or_eq_true, decide_eq_true_eq, beq_iff_eq]
  split <;> split <;> split <;> omega
theorem sign_lt {a b : Int} : (iSign a * iSign b < 0) = (a * b < 0) := by
  unfold iSign
  apply propext
  rcases Int.lt_trichotomy a 0 with ha | ha | ha <;> rcases Int.lt_trichotomy b 0 with hb | hb | hb
  · have := Int.mul_pos_of_neg_of_neg ha hb
    rw [if_neg (by omega), if_pos ha, if_neg (by omega), if_pos hb]
    omega
  · subst hb; simp
  · have := Int.mul_neg_of_neg_of_pos ha hb
    rw [if_neg (by omega), if_pos ha, if_pos hb]
    omega
  · subst ha; simp
  · subst ha; simp
  · subst ha; simp
  · have := Int.mul_neg_of_pos_of_neg ha hb
    rw [if_pos ha, if_neg (by omega), if_pos hb]
    omega
  · subst hb; simp
  · have := Int.mul_pos ha hb
    rw [if_pos ha, if_pos hb]
    omega
theorem cp_at (r : Room) (i : Nat) : At (cp r i) (r.line i).1 := at1 (q := cp r i) rfl
theorem cp_at2 (r : Room) (i : Nat) : At (cp r (i + 1)) (r.line i).2 := at1 (q := cp r (i + 1)) rfl
theorem meet_at {i j : Nat} (hi : iHasDir (iDir r i) = true) (hj : iHasDir (iDir r j) = true) : iMeet r i j = Eh.meet (r.line i) (r.line j) := by
  unfold iMeet Eh.meet
  rw [on_nd (cp_at r j) i (nd_of hi), on_nd (cp_at2 r j) i (nd_of hi), on_nd (cp_at r i) j (nd_of hj), on_nd (cp_at2 r i) j (nd_of hj)]
  have s : ∀ (a b : Int) (x y : Rat), (a : Rat) = x * ((1 : Int) : Rat) → (b : Rat) = y * ((1 : Int) : Rat) → decide (iSign a * iSign b < 0) = decide (x * y < 0) := fun a b x y h1 h2 => by
    have one : ((1 : Int) : Rat) = 1 := rfl
    rw [one, Rat.mul_one] at h1 h2
    rw [← h1, ← h2, decide_eq_decide, sign_lt, ← Rat.intCast_mul]
    exact_mod_cast Iff.rfl
  have s1 := s _ _ _ _ (beside_at (r := r) (cp_at r j) i) (beside_at (r := r) (cp_at2 r j) i)
  have s2 := s _ _ _ _ (beside_at (r := r) (cp_at r i) j) (beside_at (r := r) (cp_at2 r i) j)
  rw [s1, s2]
  generalize onLine (r.line i) (r.line j).1 = a
  generalize onLine (r.line i) (r.line j).2 = b
  generalize onLine (r.line j) (r.line i).1 = c
  generalize onLine (r.line j) (r.line i).2 = d
  generalize (decide (left (r.line i).1 (r.line i).2 (r.line j).1 * left (r.line i).1 (r.line i).2 (r.line j).2 < 0) && decide (left (r.line j).1 (r.line j).2 (r.line i).1 * left (r.line j).1 (r.line j).2 (r.line i).2 < 0)) = e
  cases a <;> cases b <;> cases c <;> cases d <;> cases e <;> rfl
theorem area_at (r : Room) : r.area2 = iArea r := by
  unfold Room.area2 iArea iCross
  generalize List.range r.n = l
  induction l with
  | nil => rfl
  | cons i l ih =>
    rw [List.map_cons, List.foldr_cons, ih, List.map_cons, List.sum_cons]
    dsimp only
    rw [Int.mul_comm (r.corner (i + 1)).x]
end
section
variable {told : List Int}
theorem stuff_bad {z : Int} : (STUFFS ≤ stuffOf z) = ¬ (0 ≤ z ∧ z ≤ 7) := by
  have : STUFFS = 8 := rfl
  unfold stuffOf
  apply propext
  split <;> omega
/-- the list's fault is the room's -/
theorem fault_at (sh : okShape told = true) : (roomT told (tellN told)).fault = (iFault told).map fun p => ⟨p.1, p.2⟩ := by
  have sh' := sh
  unfold okShape at sh
  simp only [Bool.and_eq_true, decide_eq_true_eq] at sh
  obtain ⟨l3, lm, n3, n64⟩ := sh
  unfold Room.fault iFault
  rw [roomT_n, if_neg (show ¬ (tellN told < 3 ∨ MOST < tellN told) by unfold MOST; omega), if_neg (show ¬ (okShape told = false) by rw [sh']; decide)]
  have e2 : ((roomT told (tellN told)).h < 1 ∨ WIDE < (roomT told (tellN told)).h ∨ STUFFS ≤ (roomT told (tellN told)).floor_ ∨ STUFFS ≤ (roomT told (tellN told)).ceiling) = (okHead told = false) := by
    have h1 := @stuff_bad (told.getD 1 0)
    have h2 := @stuff_bad (told.getD 2 0)
    show (told.getD 0 0 < 1 ∨ WIDE < told.getD 0 0 ∨ STUFFS ≤ stuffOf (told.getD 1 0) ∨ STUFFS ≤ stuffOf (told.getD 2 0)) = _
    rw [h1, h2]
    unfold okHead WIDE
    apply propext
    simp only [Bool.and_eq_false_iff, decide_eq_false_iff_not]
    omega
  by_cases c2 : okHead told = false
  · rw [if_pos (by rw [e2]; exact c2), if_pos c2]; rfl
  rw [if_neg (by rw [e2]; exact c2), if_neg c2]
  have e3 : ((List.range (tellN told)).find? fun (i : Nat) => decide (WIDE < ((roomT told (tellN told)).corner i).x) || (decide (WIDE < ((roomT told (tellN told)).corner i).y) || (decide (((roomT told (tellN told)).corner i).x < 0) || (decide (((roomT told (tellN told)).corner i).y < 0) || decide (STUFFS ≤ ((roomT told (tellN told)).corner i).stuff))))) = firstBad (ok3 told) (tellN told) := by
    unfold firstBad
    refine find_congr fun i hi => ?_
    rw [roomT_corner hi]
    unfold cornAt ok3 WIDE
    dsimp only
    simp only [@stuff_bad (told.getD (5 + 3 * i) 0)]
    rw [Bool.eq_iff_iff]
    simp only [Bool.or_eq_true, decide_eq_true_eq, Bool.not_eq_true', Bool.and_eq_false_iff, decide_eq_false_iff_not]
    omega
  rw [e3]
  cases c3 : firstBad (ok3 told) (tellN told) with
  | some i => rfl
  | none =>
    dsimp only
    have e4 : ((List.range (tellN told)).find? fun (i : Nat) => !dirOk ((roomT told (tellN told)).line i)) = firstBad (ok4 (roomT told (tellN told))) (tellN told) := by
      unfold firstBad
      refine find_congr fun i hi => ?_
      rw [dirOk_at]
      rfl
    rw [e4]
    cases c4 : firstBad (ok4 (roomT told (tellN told))) (tellN told) with
    | some i => rfl
    | none =>
      dsimp only
      have e5 : ((List.range (tellN told)).find? fun (i : Nat) => alongside ((roomT told (tellN told)).line i) ((roomT told (tellN told)).line (i + 1))) = firstBad (ok5 (roomT told (tellN told)) (tellN told)) (tellN told) := by
        unfold firstBad
        refine find_congr fun i hi => ?_
        rw [along_at2, roomT_n]
        unfold ok5
        rw [Bool.not_not]
      rw [e5]
      cases c5 : firstBad (ok5 (roomT told (tellN told)) (tellN told)) (tellN told) with
      | some i => rfl
      | none =>
        dsimp only
        have dirs : ∀ i, i < tellN told → iHasDir (iDir (roomT told (tellN told)) i) = true := fun i hi => by
          unfold firstBad at c4
          rw [List.find?_eq_none] at c4
          simpa [ok4] using c4 i (List.mem_range.mpr hi)
        have e6 : ((List.range (tellN told)).find? fun (i : Nat) => (List.range (tellN told)).any fun (j : Nat) => !neighbours (tellN told) i j && Eh.meet ((roomT told (tellN told)).line i) ((roomT told (tellN told)).line j)) = firstBad (ok6 (roomT told (tellN told)) (tellN told)) (tellN told) := by
          unfold firstBad
          refine find_congr fun i hi => ?_
          unfold ok6
          rw [Bool.not_not]
          rw [Bool.eq_iff_iff, List.any_eq_true, List.any_eq_true]
          have el : ∀ j, j ∈ List.range (tellN told) → (!neighbours (tellN told) i j && Eh.meet ((roomT told (tellN told)).line i) ((roomT told (tellN told)).line j)) = (iApart (roomT told (tellN told)) i j && iMeet (roomT told (tellN told)) i j) := fun j hj => by
            have hj := List.mem_range.mp hj
            have ea := apart_at (r := roomT told (tellN told)) (i := i) (j := j) (by rw [roomT_n]; exact n3) (by rw [roomT_n]; exact hi) (by rw [roomT_n]; exact hj)
            rw [roomT_n] at ea
            rw [ea, meet_at (dirs i hi) (dirs j hj)]
          constructor
          · rintro ⟨j, h1, h2⟩
            exact ⟨j, h1, (el j h1) ▸ h2⟩
          · rintro ⟨j, h1, h2⟩
            exact ⟨j, h1, (el j h1).symm ▸ h2⟩
        rw [e6]
        cases c6 : firstBad (ok6 (roomT told (tellN told)) (tellN told)) (tellN told) with
        | some i => rfl
        | none =>
          dsimp only
          rw [area_at]
          split <;> rfl
/-- the list tells a room, or a fault -/
theorem roomOf_at (told : List Int) : roomOf told = match iFault told with
    | some p => .error ⟨p.1, p.2⟩
    | none => .ok (roomT told (tellN told)) := by
  by_cases sh : 3 ≤ told.length ∧ told.length % 3 = 0
  · obtain ⟨h, f, c, r, rfl⟩ : ∃ h f c r, told = h :: f :: c :: r := by
      match told, sh.1 with
      | h :: f :: c :: r, _ => exact ⟨h, f, c, r, rfl⟩
    have lr : r.length = 3 * (r.length / 3) := by
      have := sh.2
      simp only [List.length_cons] at this
      omega
    have et : tellN (h :: f :: c :: r) = r.length / 3 := by
      unfold tellN
      simp
    have er : (⟨h, stuffOf f, stuffOf c, (List.range (r.length / 3)).map fun i => (⟨r.getD (3 * i) 0, r.getD (3 * i + 1) 0, stuffOf (r.getD (3 * i + 2) 0)⟩ : Corner)⟩ : Room) = roomT (h :: f :: c :: r) (tellN (h :: f :: c :: r)) := by
      rw [et]
      unfold roomT cornAt
      congr 1
      refine List.map_congr_left fun i _ => ?_
      have g : ∀ k, (h :: f :: c :: r).getD (3 + k) 0 = r.getD k 0 := fun k => by
        rw [List.getD_eq_getElem?_getD, List.getD_eq_getElem?_getD, show 3 + k = k + 1 + 1 + 1 by omega, List.getElem?_cons_succ, List.getElem?_cons_succ, List.getElem?_cons_succ]
      rw [g (3 * i), show 4 + 3 * i = 3 + (3 * i + 1) by omega, g, show 5 + 3 * i = 3 + (3 * i + 2) by omega, g]
    unfold roomOf
    dsimp only
    rw [corners_some _ r lr]
    dsimp only
    rw [er]
    by_cases s2 : okShape (h :: f :: c :: r) = true
    · rw [fault_at s2]
      cases iFault (h :: f :: c :: r) <;> rfl
    · have s2 : okShape (h :: f :: c :: r) = false := by simpa using s2
      rw [fault1 s2]
      have : (roomT (h :: f :: c :: r) (tellN (h :: f :: c :: r))).fault = some ⟨1, 0⟩ := by
        unfold Room.fault
        rw [if_pos]
        rw [roomT_n]
        unfold okShape at s2
        rw [decide_eq_true sh.1, decide_eq_true sh.2, Bool.true_and, Bool.true_and, Bool.and_eq_false_iff, decide_eq_false_iff_not, decide_eq_false_iff_not] at s2
        unfold MOST
        omega
      rw [this]
  · have s2 : okShape told = false := by
      unfold okShape
      by_cases h3 : 3 ≤ told.length
      · rw [decide_eq_true h3, decide_eq_false (fun z => sh ⟨h3, z⟩)]; rfl
      · rw [decide_eq_false h3]; rfl
    rw [fault1 s2]
    match told, sh with
    | [], _ => rfl
    | [_], _ => rfl
    | [_, _], _ => rfl
    | h :: f :: c :: r, sh =>
      unfold roomOf
      dsimp only
      rw [corners_none r (by simp at sh; omega)]
theorem roomOk_T (h : iFault told = none) : RoomOk (roomT told (tellN told)) := by
  have sh : okShape told = true := by
    cases c : okShape told with
    | true => rfl
    | false => rw [fault1 c] at h; cases h
  refine roomOk_of ?_
  rw [fault_at sh, h]
  rfl
end
end Rt
namespace Rt
open Eh
/-! # Bounds -/
theorem changes_par (f : Nat → Bool) : ∀ n, ((List.range n).filter fun i => !decide (f i = f (i + 1))).length % 2 = if f 0 = f n then 0 else 1
  | 0 => by simp
  | n + 1 => by
    have ih := changes_par f n
    rw [List.range_succ, List.filter_append, List.length_append]
    by_cases h : f n = f (n + 1)
    · rw [List.filter_cons_of_neg (by simp [h]), ← h]
      simpa using ih
    · rw [List.filter_cons_of_pos (by simp [h])]
      have e : (if f 0 = f (n + 1) then 0 else 1) = 1 - (if f 0 = f n then 0 else 1) := by
        cases h0 : f 0 <;> cases h1 : f n <;> cases h2 : f (n + 1) <;> simp_all
      rw [e, ← ih]
      simp only [List.filter_nil, List.length_cons, List.length_nil]
      omega
theorem mul_up {d t D : Int} (h0 : 0 ≤ t) (h1 : t ≤ D) : d * t ≤ 0 ∨ d * t ≤ d * D := by
  rcases Int.le_total d 0 with h | h
  · exact .inl (Int.mul_nonpos_of_nonpos_of_nonneg h h0)
  · exact .inr (Int.mul_le_mul_of_nonneg_left h1 h)
theorem mul_dn {d t D : Int} (h0 : 0 ≤ t) (h1 : t ≤ D) : 0 ≤ d * t ∨ d * D ≤ d * t := by
  have := mul_up (d := -d) h0 h1
  rw [Int.neg_mul, Int.neg_mul] at this
  omega
section
variable {r : Room} {q : Q4}
/-- how the program's crnR bounds stand -/
structure CrnR (r : Room) : Prop where
  n3 : 3 ≤ r.n
  h2 : r.h ≤ 4095
  h0 : 0 ≤ r.h
  crn : ∀ i, 0 ≤ (r.corner i).x ∧ (r.corner i).x ≤ 4095 ∧ 0 ≤ (r.corner i).y ∧ (r.corner i).y ≤ 4095
theorem crn_of (R : RoomOk r) : CrnR r := ⟨R.n3, R.h2, by have := R.h1; omega, fun i => ⟨(R.crn i).1, (R.crn i).2.1, (R.crn i).2.2.1, (R.crn i).2.2.2.1⟩⟩
theorem low_1 (q1 : q.w = 1) (i : Nat) : iLow r i q = decide (q.y < (r.corner i).y) := by unfold iLow; rw [q1, Int.mul_one]
theorem within_bd (R : CrnR r) (q1 : q.w = 1) (h : iWithin r q = true) : 0 ≤ q.x ∧ q.x ≤ 4095 ∧ 0 ≤ q.y ∧ q.y ≤ 4095 := by
  unfold iWithin at h
  rw [Bool.and_eq_true, decide_eq_true_eq] at h
  have odd := h.2
  have eb : ∀ i, iBeside r i q = ((r.corner (i + 1)).x - (r.corner i).x) * (q.y - (r.corner i).y) - ((r.corner (i + 1)).y - (r.corner i).y) * (q.x - (r.corner i).x) := fun i => beside_1 q1
  obtain ⟨i, hi, ht⟩ : ∃ i, i < r.n ∧ iTurns r i q = true := by
    cases e : (List.range r.n).filter fun i => iTurns r i q with
    | nil => rw [e] at odd; simp at odd
    | cons i l =>
      have : i ∈ (List.range r.n).filter fun i => iTurns r i q := by rw [e]; exact List.mem_cons_self
      obtain ⟨h1, h2⟩ := List.mem_filter.mp this
      exact ⟨i, List.mem_range.mp h1, h2⟩
  have hx : 0 ≤ q.x := by
    refine Int.not_lt.mp fun neg => ?_
    have all : ∀ i, iTurns r i q = !decide (iLow r i q = iLow r (i + 1) q) := fun i => by
      unfold iTurns
      rw [eb, low_1 q1, low_1 q1]
      have c := R.crn i
      have c' := R.crn (i + 1)
      generalize (r.corner i).x = ax at *
      generalize (r.corner i).y = ay at *
      generalize (r.corner (i + 1)).x = bx at *
      generalize (r.corner (i + 1)).y = b at *
      by_cases l1 : q.y < ay
      · by_cases l2 : q.y < b
        · simp [l1, l2]
        · have k := mul_dn (d := bx - ax) (t := ay - q.y) (D := ay - b) (by omega) (by omega)
          have e1 : (bx - ax) * (q.y - ay) = -((bx - ax) * (ay - q.y)) := by rw [← Int.mul_neg]; congr 1; omega
          have k2 : (b - ay) * (q.x - ax) = (ay - b) * (ax - q.x) := by rw [← Int.neg_mul_neg]; congr 1 <;> omega
          have k3 : 0 < (ay - b) * (ax - q.x) := Int.mul_pos (by omega) (by omega)
          have k4 : 0 < (ay - b) * (bx - q.x) := Int.mul_pos (by omega) (by omega)
          have k5 : (ay - b) * (bx - q.x) = (bx - ax) * (ay - b) + (ay - b) * (ax - q.x) := by grind
          have : ¬ (0 < (bx - ax) * (q.y - ay) - (b - ay) * (q.x - ax)) := by omega
          rw [decide_eq_false this, decide_eq_true l1, decide_eq_false l2]; rfl
      · by_cases l2 : q.y < b
        · have k := mul_dn (d := bx - ax) (t := q.y - ay) (D := b - ay) (by omega) (by omega)
          have k2 : (b - ay) * (q.x - ax) = -((b - ay) * (ax - q.x)) := by rw [← Int.mul_neg]; congr 1; omega
          have k3 : 0 < (b - ay) * (ax - q.x) := Int.mul_pos (by omega) (by omega)
          have k4 : 0 < (b - ay) * (bx - q.x) := Int.mul_pos (by omega) (by omega)
          have k5 : (b - ay) * (bx - q.x) = (bx - ax) * (b - ay) + (b - ay) * (ax - q.x) := by grind
          have : 0 < (bx - ax) * (q.y - ay) - (b - ay) * (q.x - ax) := by omega
          rw [decide_eq_true this, decide_eq_false l1, decide_eq_true l2]; rfl
        · simp [l1, l2]
    have par := changes_par (fun i => iLow r i q) r.n
    have cyc : iLow r r.n q = iLow r 0 q := by
      have : r.corner r.n = r.corner 0 := by have := corner_per r 0; rw [Nat.zero_add] at this; exact this
      unfold iLow
      rw [this]
    rw [if_pos cyc.symm] at par
    rw [List.filter_congr (fun i _ => all i)] at odd
    omega
  have hx2 : q.x ≤ 4095 := by
    refine Int.not_lt.mp fun big => ?_
    unfold iTurns at ht
    rw [eb, low_1 q1, low_1 q1, Bool.and_eq_true, Bool.not_eq_true', decide_eq_false_iff_not, decide_eq_true_eq] at ht
    obtain ⟨h1, h2⟩ := ht
    have c := R.crn i
    have c' := R.crn (i + 1)
    generalize (r.corner i).x = ax at *
    generalize (r.corner i).y = ay at *
    generalize (r.corner (i + 1)).x = bx at *
    generalize (r.corner (i + 1)).y = b at *
    by_cases l1 : q.y < ay
    · have l2 : ¬ q.y < b := fun z => h1 (by rw [decide_eq_true l1, decide_eq_true z])
      rw [decide_eq_false l2, decide_eq_false_iff_not] at h2
      have k := mul_up (d := bx - ax) (t := ay - q.y) (D := ay - b) (by omega) (by omega)
      have e1 : (bx - ax) * (q.y - ay) = -((bx - ax) * (ay - q.y)) := by rw [← Int.mul_neg]; congr 1; omega
      have k2 : (b - ay) * (q.x - ax) = -((ay - b) * (q.x - ax)) := by rw [← Int.neg_mul]; congr 1; omega
      have k3 : 0 < (ay - b) * (q.x - ax) := Int.mul_pos (by omega) (by omega)
      have k4 : 0 < (ay - b) * (q.x - bx) := Int.mul_pos (by omega) (by omega)
      have k5 : (ay - b) * (q.x - ax) = (bx - ax) * (ay - b) + (ay - b) * (q.x - bx) := by grind
      omega
    · have l2 : q.y < b := by
        refine Classical.byContradiction fun z => h1 ?_
        rw [decide_eq_false l1, decide_eq_false z]
      rw [decide_eq_true l2, decide_eq_true_eq] at h2
      have k := mul_up (d := bx - ax) (t := q.y - ay) (D := b - ay) (by omega) (by omega)
      have k3 : 0 < (b - ay) * (q.x - ax) := Int.mul_pos (by omega) (by omega)
      have k4 : 0 < (b - ay) * (q.x - bx) := Int.mul_pos (by omega) (by omega)
      have k5 : (b - ay) * (q.x - ax) = (bx - ax) * (b - ay) + (b - ay) * (q.x - bx) := by grind
      omega
  have hy : 0 ≤ q.y ∧ q.y ≤ 4095 := by
    unfold iTurns at ht
    rw [low_1 q1, low_1 q1, Bool.and_eq_true, Bool.not_eq_true', decide_eq_false_iff_not] at ht
    have h1 := ht.1
    have c := R.crn i
    have c' := R.crn (i + 1)
    by_cases l1 : q.y < (r.corner i).y
    · have l2 : ¬ q.y < (r.corner (i + 1)).y := fun z => h1 (by rw [decide_eq_true l1, decide_eq_true z])
      omega
    · have l2 : q.y < (r.corner (i + 1)).y := by
        refine Classical.byContradiction fun z => h1 ?_
        rw [decide_eq_false l1, decide_eq_false z]
      omega
  exact ⟨hx, hx2, hy⟩
def InB (M : Int) (q : Q4) : Prop := (-M ≤ q.x ∧ q.x ≤ M) ∧ (-M ≤ q.y ∧ q.y ≤ M) ∧ (-M ≤ q.z ∧ q.z ≤ M)
theorem inside_bd (R : CrnR r) (q1 : q.w = 1) (h : iInside r q = true) : (0 ≤ q.x ∧ q.x ≤ 4095) ∧ (0 ≤ q.y ∧ q.y ≤ 4095) ∧ (0 ≤ q.z ∧ q.z ≤ 4095) := by
  unfold iInside iHeight at h
  rw [Bool.and_eq_true, Bool.and_eq_true, decide_eq_true_eq, decide_eq_true_eq, q1, Int.mul_one] at h
  obtain ⟨⟨h1, h2⟩, h3⟩ := h
  have := within_bd R q1 h3
  have := R.h2
  omega
theorem mir_bd (R : CrnR r) (hd : RDir r) {M : Int} {w : Nat} (q1 : q.w = 1) (b : InB M q) : InB (M + 8190) (iMir r w q) := by
  obtain ⟨⟨b1, b2⟩, ⟨b3, b4⟩, b5, b6⟩ := b
  have h2 := R.h2
  have h0 := R.h0
  by_cases c : w < r.n
  · have c1 := R.crn w
    rcases mir_case hd c q1 with ⟨_, _, e⟩ | ⟨_, _, e⟩ | ⟨_, _, e⟩ | ⟨_, _, e⟩ <;> rw [e] <;> unfold InB <;> dsimp only <;> omega
  · unfold iMir
    split
    · unfold InB; dsimp only; omega
    · rw [if_pos (by omega)]; unfold InB; dsimp only; omega
theorem InB.mono {M N : Int} (b : InB M q) (h : M ≤ N) : InB N q := by
  unfold InB at *
  omega
theorem last_bd (R : CrnR r) (hd : RDir r) : ∀ (l : List Nat) (s : Q4) (M : Int), s.w = 1 → InB M s → InB (M + 8190 * l.length) (lastOr s (imgs r s l)) ∧ (lastOr s (imgs r s l)).w = 1
  | [], s, M, s1, b => by
    show InB (M + 8190 * (0 : Nat)) s ∧ s.w = 1
    exact ⟨b.mono (by omega), s1⟩
  | w :: l, s, M, s1, b => by
    have ih := last_bd R hd l (iMir r w s) (M + 8190) mir_w (mir_bd R hd s1 b)
    show InB _ (lastOr s (iMir r w s :: imgs r (iMir r w s) l)) ∧ (lastOr s (iMir r w s :: imgs r (iMir r w s) l)).w = 1
    rw [last_cons]
    refine ⟨ih.1.mono ?_, ih.2⟩
    rw [List.length_cons]
    omega
theorem sq_le {a M : Int} (h1 : -M ≤ a) (h2 : a ≤ M) : 0 ≤ a * a ∧ a * a ≤ M * M := by
  refine ⟨sq_nn a, ?_⟩
  rcases Int.le_total 0 a with h | h
  · exact Int.mul_le_mul h2 h2 h (by omega)
  · have k : -a * -a ≤ M * M := Int.mul_le_mul (by omega) (by omega) (by omega) (by omega)
    rw [Int.neg_mul_neg] at k
    exact k
theorem paths_bd (R : CrnR r) (hd : RDir r) {s e : Q4} (s1 : s.w = 1) (is : iInside r s = true) (e1 : e.w = 1) (ie : iInside r e = true) {most : Nat} (m4 : most ≤ 4) : ∀ p ∈ iPaths r s e most, 0 ≤ p.square ∧ p.square < 8589934592 ∧ p.walls.length ≤ 4 ∧ ∀ w ∈ p.walls, w < r.n + 2 := by
  intro p hp
  unfold iPaths iFound at hp
  obtain ⟨k, hk, hp⟩ := List.mem_flatMap.mp hp
  have hk := List.mem_range.mp hk
  obtain ⟨row, hr, rfl⟩ := List.mem_map.mp hp
  have hr := (List.mem_filter.mp hr).1
  rw [rows_eq] at hr
  obtain ⟨l, hl, rfl⟩ := List.mem_map.mp hr
  obtain ⟨len, few⟩ := rowsOf_mem k l (List.mem_filter.mp hl).1
  have bs := inside_bd R s1 is
  have be := inside_bd R e1 ie
  obtain ⟨bl, _⟩ := last_bd R hd l s 4095 s1 (by unfold InB; omega)
  dsimp only
  generalize lastOr s (imgs r s l) = im at *
  have bl := bl.mono (N := 36855) (by omega)
  unfold InB at bl
  have qx := sq_le (a := im.x - e.x) (M := 40950) (by omega) (by omega)
  have qy := sq_le (a := im.y - e.y) (M := 40950) (by omega) (by omega)
  have qz := sq_le (a := im.z - e.z) (M := 40950) (by omega) (by omega)
  unfold iSquare
  refine ⟨by omega, by omega, by omega, few⟩
end
/-! # The call 2 -/
def rateOk (a b : Int) : Bool := decide (1 ≤ a) && (decide (a ≤ 192000) && (decide (1 ≤ b) && decide (b ≤ 1048576)))
def gainQ (r : Room) (book : List Nat) (band : Nat) (p : PathI × Nat) : Nat × Nat := (p.2, iGain r book band p.1.square.toNat p.1.walls)
def flatQ (taps : List (Nat × Int)) : List Int := taps.flatMap fun t => [(t.1 : Int), t.2]
def iPairs (r : Room) (s e : Q4) (most rate speed : Nat) : List (PathI × Nat) := (iPaths r s e most).map fun p => (p, iDelay p.square.toNat rate speed)
def iTaps2 (r : Room) (book : List Nat) (band : Nat) (ps : List (PathI × Nat)) : List (Nat × Int) := (Eh.tapsOf ((ps.map (gainQ r book band)).map mkTap)).map fun t => (t.delay, t.gain)
def iCall2 (s e : Q4) (most band rate speed : Nat) (told book : List Int) : Except (List Int) (List Int) :=
  match iFault told with
  | some (k, i) => .error [-5, (k : Int), (i : Int)]
  | none => if 0 ≤ iBook book then .error [-6, iBook book] else
    if (rateOk (rate : Int) (speed : Int) && (decide (most ≤ 4) && decide (band ≤ 3))) = false then .error [-1] else
    if (iInside (roomT told (tellN told)) s && iInside (roomT told (tellN told)) e) = false then .error [-3] else
    if ((iPairs (roomT told (tellN told)) s e most rate speed).all fun p => decide (p.2 ≤ 262143)) = false then .error [-4] else
    if 4096 < (iTaps2 (roomT told (tellN told)) (book.map Int.toNat) band (iPairs (roomT told (tellN told)) s e most rate speed)).length then .error [-8] else
    .ok (0 :: flatQ (iTaps2 (roomT told (tellN told)) (book.map Int.toNat) band (iPairs (roomT told (tellN told)) s e most rate speed)))
end Rt
namespace Rt
open Eh
/-! # A call, what it does to a line, what it answers -/
inductive IC where
  | delay (q a b : Nat)
  | taps (s e : Q4) (most band rate speed : Nat) (told book : List Int)
  | judge (row : List Int)
  | begin_
  | set (row : List Int)
  | get
  | run (row : List Int)
  | past (k : Nat)
  | at_
  | quiet
def IC.place : IC → Nat
  | .delay .. => 1
  | .taps .. => 2
  | .judge .. => 3
  | .begin_ => 4
  | .set .. => 5
  | .get => 6
  | .run .. => 7
  | .past .. => 8
  | .at_ => 9
  | .quiet => 10
def IC.nums : IC → List Int
  | .delay q a b => [(q : Int), (a : Int), (b : Int)]
  | .taps s e most band rate speed _ _ => [s.x, s.y, s.z, e.x, e.y, e.z, (most : Int), (band : Int), (rate : Int), (speed : Int)]
  | .past k => [(k : Int)]
  | _ => []
def IC.rows : IC → List (List Int)
  | .taps _ _ _ _ _ _ told book => [told, book]
  | .judge row => [row]
  | .set row => [row]
  | .run row => [row]
  | _ => []
def delayQ (q a b : Nat) : Except (List Int) (List Int) :=
  if rateOk (a : Int) (b : Int) = false then .error [-1] else if 1099511627776 < q then .error [-4] else if 262143 < iDelay q a b then .error [-4] else .ok [0, (iDelay q a b : Nat)]
def samplesOk (row : List Int) : Bool := row.all fun x => decide (-2147483648 ≤ x) && decide (x ≤ 2147483647)
abbrev LineS : Type := List (Nat × Int) × List Int
/-- the answer, and the line then -/
def iAns (t : List (Nat × Int)) (s : List Int) : IC → Except (List Int) (List Int) × LineS
  | .delay q a b => (delayQ q a b, t, s)
  | .taps p e most band rate speed told book => (iCall2 p e most band rate speed told book, t, s)
  | .judge row => (match iRead row with | .ok _ => .ok [0] | .error l => .error l, t, s)
  | .begin_ => (.ok [0], [], [])
  | .set row => (match iRead row with | .ok u => (.ok [0], u, s) | .error l => (.error l, t, s))
  | .get => (.ok (0 :: flatQ t), t, s)
  | .run row => if samplesOk row = false then (.error [-1], t, s) else (.ok (0 :: iRun t s row), t, s ++ row)
  | .past k => (if 262143 < k then .error [-1] else .ok [0, iPast s (k : Int)], t, s)
  | .at_ => (.ok [(s.length : Int)], t, s)
  | .quiet => (.ok [if iQuiet t s = true then 1 else 0], t, s)
def ansOf : Except (List Int) (List Int) → List Int
  | .ok l => l
  | .error l => l
/-- refusals begin below 0 -/
def Below0 (l : List Int) : Prop := ∃ z r, l = z :: r ∧ z < 0
theorem read_below {row l : List Int} (h : iRead row = .error l) : Below0 l := by
  unfold iRead at h
  split at h
  · cases h; exact ⟨-1, [], rfl, by decide⟩
  · split at h
    · cases h; exact ⟨-7, _, rfl, by decide⟩
    · cases h
theorem ans_below {t : List (Nat × Int)} {s : List Int} {c : IC} {l : List Int} {st : LineS} (h : iAns t s c = (.error l, st)) : Below0 l ∧ st = (t, s) := by
  cases c with
  | delay q a b =>
    have h : (delayQ q a b, t, s) = (.error l, st) := h
    obtain ⟨h1, h2⟩ := Prod.mk.inj h
    refine ⟨?_, h2.symm⟩
    unfold delayQ at h1
    split at h1
    · cases h1; exact ⟨-1, [], rfl, by decide⟩
    · split at h1
      · cases h1; exact ⟨-4, [], rfl, by decide⟩
      · split at h1
        · cases h1; exact ⟨-4, [], rfl, by decide⟩
        · cases h1
  | taps p e most band rate speed told book =>
    have h : (iCall2 p e most band rate speed told book, t, s) = (.error l, st) := h
    obtain ⟨h1, h2⟩ := Prod.mk.inj h
    refine ⟨?_, h2.symm⟩
    unfold iCall2 at h1
    split at h1
    · cases h1; exact ⟨-5, _, rfl, by decide⟩
    · split at h1
      · cases h1; exact ⟨-6, _, rfl, by decide⟩
      · split at h1
        · cases h1; exact ⟨-1, _, rfl, by decide⟩
        · split at h1
          · cases h1; exact ⟨-3, _, rfl, by decide⟩
          · split at h1
            · cases h1; exact ⟨-4, _, rfl, by decide⟩
            · split at h1
              · cases h1; exact ⟨-8, _, rfl, by decide⟩
              · cases h1
  | judge row =>
    have h : ((match iRead row with | .ok _ => .ok [0] | .error l => .error l : Except (List Int) (List Int)), t, s) = (.error l, st) := h
    obtain ⟨h1, h2⟩ := Prod.mk.inj h
    refine ⟨?_, h2.symm⟩
    cases e : iRead row with
    | ok u => rw [e] at h1; cases h1
    | error l' => rw [e] at h1; cases h1; exact read_below e
  | begin_ => cases h
  | set row =>
    have h : (match iRead row with | .ok u => (.ok [0], u, s) | .error l => (.error l, t, s) : Except (List Int) (List Int) × LineS) = (.error l, st) := h
    cases e : iRead row with
    | ok u => rw [e] at h; cases h
    | error l' => rw [e] at h; cases h; exact ⟨read_below e, rfl⟩
  | get => cases h
  | run row =>
    have h : (if samplesOk row = false then (.error [-1], t, s) else (.ok (0 :: iRun t s row), t, s ++ row) : Except (List Int) (List Int) × LineS) = (.error l, st) := h
    split at h
    · cases h; exact ⟨⟨-1, [], rfl, by decide⟩, rfl⟩
    · cases h
  | past k =>
    have h : ((if 262143 < k then .error [-1] else .ok [0, iPast s (k : Int)] : Except (List Int) (List Int)), t, s) = (.error l, st) := h
    obtain ⟨h1, h2⟩ := Prod.mk.inj h
    refine ⟨?_, h2.symm⟩
    split at h1
    · cases h1; exact ⟨-1, [], rfl, by decide⟩
    · cases h1
  | at_ => cases h
  | quiet => cases h
/-- calls one behind another -/
def iPlay : LineS → List IC → List (List Int)
  | _, [] => []
  | st, c :: l => ansOf (iAns st.1 st.2 c).1 :: iPlay (iAns st.1 st.2 c).2 l
def iTold (l : List (List Int)) : List Int := l.flatMap fun a => (a.length : Int) :: a
end Rt
namespace Rt
open Eh
/-! # Taps read, a line played: the specification's -/
abbrev toT (t : Tap) : Nat × Int := (t.delay, t.gain)
def evenOk (row : List Int) : Bool := decide (row.length % 2 = 0) && (List.range (row.length / 2)).all fun k => decide (0 ≤ row.getD (2 * k) 0)
theorem getD_two (d g : Int) (l : List Int) (k : Nat) : (d :: g :: l).getD (2 * (k + 1)) 0 = l.getD (2 * k) 0 ∧ (d :: g :: l).getD (2 * (k + 1) + 1) 0 = l.getD (2 * k + 1) 0 := by
  rw [List.getD_eq_getElem?_getD, List.getD_eq_getElem?_getD, List.getD_eq_getElem?_getD, List.getD_eq_getElem?_getD, show 2 * (k + 1) = 2 * k + 1 + 1 by omega, List.getElem?_cons_succ, List.getElem?_cons_succ, show 2 * k + 1 + 1 + 1 = (2 * k + 1) + 1 + 1 by omega, List.getElem?_cons_succ, List.getElem?_cons_succ]
  exact ⟨rfl, rfl⟩
def tapOfP (p : Nat × Int) : Tap := ⟨p.1, p.2⟩
theorem tapsIn_at : ∀ row : List Int, tapsIn row = if evenOk row = true then some ((tapsT row).map tapOfP) else none
  | [] => rfl
  | [_] => rfl
  | d :: g :: l => by
    unfold tapsIn
    have ih := tapsIn_at l
    have hn : (d :: g :: l).length / 2 = l.length / 2 + 1 := by simp only [List.length_cons]; omega
    have ee : evenOk (d :: g :: l) = (decide (0 ≤ d) && evenOk l) := by
      unfold evenOk
      rw [hn, List.range_succ_eq_map, List.all_cons, List.all_map]
      have e1 : decide ((d :: g :: l).length % 2 = 0) = decide (l.length % 2 = 0) := by rw [decide_eq_decide]; simp only [List.length_cons]; omega
      have e2 : (List.range (l.length / 2)).all ((fun k => decide (0 ≤ (d :: g :: l).getD (2 * k) 0)) ∘ Nat.succ) = (List.range (l.length / 2)).all fun k => decide (0 ≤ l.getD (2 * k) 0) := by
        congr 1
      rw [e1, e2]
      show (decide (l.length % 2 = 0) && (decide (0 ≤ d) && _)) = _
      cases decide (l.length % 2 = 0) <;> cases decide (0 ≤ d) <;> rfl
    have et : tapsT (d :: g :: l) = (d.toNat, g) :: tapsT l := by
      unfold tapsT
      rw [hn, List.range_succ_eq_map, List.map_cons, List.map_map]
      congr 1
    rw [ee, et]
    by_cases h : d < 0
    · rw [if_pos h, decide_eq_false (by omega), Bool.false_and]
      rfl
    · rw [if_neg h, decide_eq_true (by omega), Bool.true_and, ih]
      by_cases h2 : evenOk l = true
      · rw [if_pos h2, if_pos h2]
        rfl
      · rw [if_neg h2, if_neg h2]
        rfl
theorem shape_at (row : List Int) : evShape row = (evenOk row && decide (row.length ≤ 8192)) := by
  unfold evShape evenOk
  cases decide (row.length % 2 = 0) <;> cases decide (row.length ≤ 8192) <;> simp
theorem wrong_at {row : List Int} (h : evenOk row = true) : wrongTap ((tapsT row).map tapOfP) = firstBad (okTap row) (row.length / 2) := by
  unfold wrongTap firstBad
  have len : ((tapsT row).map tapOfP).length = row.length / 2 := by unfold tapsT; rw [List.length_map, List.length_map, List.length_range]
  rw [len]
  refine find_congr fun i hi => ?_
  have nn : ∀ k, k < row.length / 2 → 0 ≤ row.getD (2 * k) 0 := fun k hk => by
    unfold evenOk at h
    rw [Bool.and_eq_true, List.all_eq_true] at h
    exact of_decide_eq_true (h.2 k (List.mem_range.mpr hk))
  have at_ : ∀ k, k < row.length / 2 → ((tapsT row).map tapOfP)[k]? = some ⟨(row.getD (2 * k) 0).toNat, row.getD (2 * k + 1) 0⟩ := fun k hk => by
    unfold tapsT
    rw [List.getElem?_map, List.getElem?_map, List.getElem?_range hk]
    rfl
  rw [at_ i hi]
  dsimp only
  have ep : ∀ k, k < row.length / 2 → ((tapsT row).map tapOfP).getD k ⟨0, 0⟩ = ⟨(row.getD (2 * k) 0).toNat, row.getD (2 * k + 1) 0⟩ := fun k hk => by
    rw [List.getD_eq_getElem?_getD, at_ k hk]
    rfl
  have n0 := nn i hi
  have L : LOUD = 1099511627776 := by decide
  have La : LATEST = 262143 := rfl
  unfold Tap.good okTap lastFar
  dsimp only
  rw [L, La]
  by_cases z : i = 0
  · subst z
    rw [decide_eq_false (show ¬ 1 ≤ 0 by omega), Bool.false_and, Bool.or_false, if_pos rfl]
    generalize row.getD (2 * 0) 0 = d at *
    generalize row.getD (2 * 0 + 1) 0 = g at *
    rw [Bool.eq_iff_iff]
    simp only [Bool.not_eq_true', Bool.and_eq_false_iff, decide_eq_false_iff_not, bne_eq_false_iff_eq, Bool.or_eq_true, decide_eq_true_eq, Bool.and_eq_true]
    constructor
    · intro h
      rcases h with h | h | h | h
      · exact .inl (by omega)
      · exact .inr (.inr (.inl (by omega)))
      · exact .inr (.inr (.inl (by omega)))
      · exact .inr (.inl (by simpa using h))
    · intro h
      rcases h with h | h | h | h
      · exact .inl (by omega)
      · exact .inr (.inr (.inr (by simpa using h)))
      · by_cases q : -1099511627776 ≤ g
        · exact .inr (.inr (.inl (by omega)))
        · exact .inr (.inl (by omega))
      · omega
  · rw [if_neg z, ep (i - 1) (by omega)]
    have n1 := nn (i - 1) (by omega)
    dsimp only
    rw [decide_eq_true (show 1 ≤ i by omega), Bool.true_and]
    generalize row.getD (2 * i) 0 = d at *
    generalize row.getD (2 * i + 1) 0 = g at *
    generalize row.getD (2 * (i - 1)) 0 = p at *
    rw [Bool.eq_iff_iff]
    simp only [Bool.not_eq_true', Bool.and_eq_false_iff, decide_eq_false_iff_not, bne_eq_false_iff_eq, Bool.or_eq_true, decide_eq_true_eq, Bool.and_eq_true]
    constructor
    · intro h
      rcases h with (h | h | h | h) | h
      · exact .inl (by omega)
      · exact .inr (.inr (.inl (by omega)))
      · exact .inr (.inr (.inl (by omega)))
      · exact .inr (.inl (by simpa using h))
      · exact .inr (.inr (.inr (by omega)))
    · intro h
      rcases h with h | h | h | h
      · exact .inl (.inl (by omega))
      · exact .inl (.inr (.inr (.inr (by simpa using h))))
      · by_cases q : -1099511627776 ≤ g
        · exact .inl (.inr (.inr (.inl (by omega))))
        · exact .inl (.inr (.inl (by omega)))
      · exact .inr (by omega)
/-- taps judged, told -/
theorem read_at (row : List Int) (f : List Tap → Ta.Answer) : (∀ l, iRead row = .error l → TaNeutral.told (Ta.ofTaps row f) = l ∧ ∀ x, Ta.ofTaps row f ≠ .nums x) ∧ ∀ u, iRead row = .ok u → tapsIn row = some (u.map tapOfP) ∧ Ta.ofTaps row f = f (u.map tapOfP) := by
  unfold Ta.ofTaps iRead
  rw [tapsIn_at, shape_at]
  have T : TAPS = 4096 := rfl
  by_cases e : evenOk row = true
  · rw [if_pos e, e, Bool.true_and]
    have len : ((tapsT row).map tapOfP).length = row.length / 2 := by unfold tapsT; rw [List.length_map, List.length_map, List.length_range]
    have even : row.length % 2 = 0 := by
      unfold evenOk at e
      rw [Bool.and_eq_true] at e
      exact of_decide_eq_true e.1
    dsimp only
    rw [len, T, wrong_at e]
    by_cases big : row.length ≤ 8192
    · rw [decide_eq_true big, if_neg (by decide), if_neg (by omega)]
      cases c : firstBad (okTap row) (row.length / 2) with
      | none => exact ⟨fun l h => (nomatch h), fun u h => by cases h; exact ⟨rfl, rfl⟩⟩
      | some k => exact ⟨fun l h => by cases h; exact ⟨rfl, fun x q => (nomatch q)⟩, fun u h => (nomatch h)⟩
    · rw [decide_eq_false big, if_pos rfl, if_pos (by omega)]
      exact ⟨fun l h => by cases h; exact ⟨rfl, fun x q => (nomatch q)⟩, fun u h => (nomatch h)⟩
  · rw [if_neg e]
    have e2 : evenOk row = false := by simpa using e
    rw [e2, Bool.false_and, if_pos rfl]
    exact ⟨fun l h => by cases h; exact ⟨rfl, fun x q => (nomatch q)⟩, fun u h => (nomatch h)⟩
/-! ### streams -/
theorem samp (s : List Int) (d : Nat) : iSample s ((s.length : Int) - 1 - (d : Int)) = s.reverse.getD d 0 := by
  unfold iSample
  have e : s.reverse.getD d 0 = (s.reverse[d]?).getD 0 := List.getD_eq_getElem?_getD
  rw [e]
  by_cases h : d < s.length
  · rw [if_neg (by omega), List.getElem?_reverse h, List.getD_eq_getElem?_getD]
    congr 2
    omega
  · rw [if_pos (.inl (by omega)), List.getElem?_eq_none (by rw [List.length_reverse]; omega)]
    rfl
theorem foldr_sum (l : List Int) : l.foldr (fun (a b : Int) => a + b) 0 = l.sum := by
  induction l with
  | nil => rfl
  | cons x l ih => rw [List.foldr_cons, ih, List.sum_cons]
theorem settle (z : Int) : (2 * z + 16777216) / 2 ^ 25 = settled z := by
  unfold settled
  have e1 : (2 : Int) ^ 25 = 33554432 := by decide
  have e2 : (2 : Int) ^ 24 = 16777216 := by decide
  have e3 : (2 : Int) ^ 23 = 8388608 := by decide
  rw [e1, e2, e3]
  omega
theorem held_eq (z : Int) : iHeld z = held z := by
  have e1 : LOW = -2147483648 := by decide
  have e2 : HIGH = 2147483647 := by decide
  unfold iHeld held
  rw [e1, e2]
theorem out_at (taps : List Tap) (s : List Int) (a : Int) : iOut (taps.map toT) (s ++ [a]) ((s.length : Nat) : Int) = settled (brought taps (a :: s.reverse)) := by
  unfold iOut
  rw [settle]
  congr 1
  unfold iTotal brought
  rw [foldr_sum, List.map_map]
  congr 1
  refine List.map_congr_left fun t _ => ?_
  show t.gain * iSample (s ++ [a]) ((s.length : Int) - (t.delay : Int)) = t.gain * (a :: s.reverse).getD t.delay 0
  have e := samp (s ++ [a]) t.delay
  rw [List.reverse_append, List.length_append] at e
  have e2 : (((s.length + [a].length : Nat) : Int) - 1 - (t.delay : Int)) = (s.length : Int) - (t.delay : Int) := by
    show (((s.length + 1 : Nat) : Int) - 1 - (t.delay : Int)) = _
    omega
  rw [e2] at e
  rw [e]
  rfl
theorem outs_cons (taps : List (Nat × Int)) (s : List Int) (a : Int) (m : List Int) : iOuts taps s (a :: m) = iOut taps (s ++ [a]) ((s.length : Nat) : Int) :: iOuts taps (s ++ [a]) m := by
  unfold iOuts
  rw [List.length_cons, List.range_succ_eq_map, List.map_cons, List.map_map]
  congr 1
  refine List.map_congr_left fun j _ => ?_
  show iOut taps (s ++ (a :: m).take (j + 1 + 1)) ((s.length + (j + 1) : Nat) : Int) = iOut taps (s ++ [a] ++ m.take (j + 1)) (((s ++ [a]).length + j : Nat) : Int)
  rw [List.take_succ_cons, List.append_assoc, List.length_append]
  congr 2
  show s.length + (j + 1) = s.length + 1 + j
  omega
theorem run_at (taps : List Tap) : ∀ (row s : List Int), through taps s.reverse row = ((iOuts (taps.map toT) s row).map iHeld, (s ++ row).reverse) ∧ heldIn taps s.reverse row = iMany (iOuts (taps.map toT) s row)
  | [], s => by
    rw [List.append_nil]
    exact ⟨rfl, rfl⟩
  | a :: m, s => by
    have ih := run_at taps m (s ++ [a])
    have er : (s ++ [a]).reverse = a :: s.reverse := by rw [List.reverse_append]; rfl
    rw [er] at ih
    rw [outs_cons, out_at]
    constructor
    · show ((out taps (a :: s.reverse) :: (through taps (a :: s.reverse) m).1), (through taps (a :: s.reverse) m).2) = _
      rw [ih.1]
      dsimp only
      rw [List.map_cons, held_eq]
      congr 1
      rw [List.append_assoc]
      rfl
    · show (if settled (brought taps (a :: s.reverse)) = out taps (a :: s.reverse) then 0 else 1) + heldIn taps (a :: s.reverse) m = _
      rw [ih.2]
      unfold iMany out
      rw [← held_eq]
      by_cases c : iHeld (settled (brought taps (a :: s.reverse))) = settled (brought taps (a :: s.reverse))
      · rw [if_pos c.symm, List.filter_cons_of_neg (by simpa using c)]
        omega
      · rw [if_neg (fun z => c z.symm), List.filter_cons_of_pos (by simpa using c), List.length_cons]
        omega
/-! ### quiet -/
theorem sum_ne {α : Type} (f : α → Int) : ∀ l : List α, (l.map f).sum ≠ 0 → ∃ x ∈ l, f x ≠ 0
  | [], h => absurd rfl h
  | x :: l, h => by
    by_cases z : f x = 0
    · rw [List.map_cons, List.sum_cons, z, Int.zero_add] at h
      obtain ⟨y, h1, h2⟩ := sum_ne f l h
      exact ⟨y, List.mem_cons_of_mem _ h1, h2⟩
    · exact ⟨x, List.mem_cons_self, z⟩
/-- what comes out when m noughts more have gone in -/
theorem behind_at (taps : List Tap) (s : List Int) (m : Nat) (hm : 1 ≤ m) : outBehind taps s.reverse m = iHeld (iOut (taps.map toT) s ((s.length : Int) - 1 + (m : Int))) := by
  unfold outBehind iOut
  rw [held_eq, settle]
  congr 2
  unfold iTotal
  rw [foldr_sum, List.map_map]
  congr 1
  refine List.map_congr_left fun t _ => ?_
  show (if m ≤ t.delay then t.gain * s.reverse.getD (t.delay - m) 0 else 0) = t.gain * iSample s ((s.length : Int) - 1 + (m : Int) - (t.delay : Int))
  by_cases h : m ≤ t.delay
  · rw [if_pos h, ← samp]
    congr 2
    omega
  · rw [if_neg h]
    unfold iSample
    rw [if_pos (.inr (by omega)), Int.mul_zero]
theorem held_zero (z : Int) : (iHeld z = 0) = (z = 0) := by
  unfold iHeld
  apply propext
  omega
theorem iOut_zero {taps : List (Nat × Int)} {s : List Int} {n : Int} (h : iTotal taps s n = 0) : iOut taps s n = 0 := by
  unfold iOut
  rw [h]
  decide
theorem mem_shifts {taps : List Tap} {x : List Int} {m : Nat} : m ∈ shifts taps x ↔ ∃ t ∈ taps, ∃ i, i < t.delay ∧ i < x.length ∧ x.getD i 0 ≠ 0 ∧ m = t.delay - i := by
  unfold shifts
  rw [List.mem_flatMap]
  constructor
  · rintro ⟨t, ht, h⟩
    obtain ⟨⟨y, i⟩, h1, h2⟩ := List.mem_filterMap.mp h
    have h3 := List.mem_zipIdx_iff_getElem?.mp h1
    dsimp only at h2 h3
    rw [List.getElem?_take] at h3
    split at h3
    · rename_i c
      split at h2
      · cases h2
      · rename_i c2
        cases h2
        refine ⟨t, ht, i, c, (List.getElem?_eq_some_iff.mp h3).1, ?_, rfl⟩
        rw [List.getD_eq_getElem?_getD, h3]
        exact c2
    · cases h3
  · rintro ⟨t, ht, i, h1, h2, h3, rfl⟩
    refine ⟨t, ht, List.mem_filterMap.mpr ⟨(x.getD i 0, i), List.mem_zipIdx_iff_getElem?.mpr ?_, ?_⟩⟩
    · dsimp only
      rw [List.getElem?_take, if_pos h1, List.getD_eq_getElem?_getD, List.getElem?_eq_getElem h2]
      rfl
    · dsimp only
      rw [if_neg h3]
theorem quiet_at (taps : List Tap) (s : List Int) : iQuiet (taps.map toT) s = Eh.quiet taps s.reverse := by
  rw [Bool.eq_iff_iff]
  unfold iQuiet Eh.quiet
  rw [List.all_eq_true, List.all_eq_true]
  constructor
  · intro h m hm
    obtain ⟨t, ht, i, h1, h2, h3, rfl⟩ := mem_shifts.mp hm
    rw [List.length_reverse] at h2
    have k := List.all_eq_true.mp (h (toT t) (List.mem_map.mpr ⟨t, ht, rfl⟩)) (s.length - 1 - i) (List.mem_range.mpr (by omega))
    rw [Bool.or_eq_true, decide_eq_true_eq, decide_eq_true_eq] at k
    have k : s.length - 1 - i + t.delay < s.length ∨ iOut (taps.map toT) s (((s.length - 1 - i : Nat) : Int) + (t.delay : Int)) = 0 := k
    rcases k with k | k
    · omega
    · rw [behind_at taps s _ (by omega), beq_iff_eq, held_zero]
      rw [← k]
      congr 1
      omega
  · intro h p hp
    obtain ⟨t, ht, rfl⟩ := List.mem_map.mp hp
    rw [List.all_eq_true]
    intro at_ ha
    have ha := List.mem_range.mp ha
    rw [Bool.or_eq_true, decide_eq_true_eq, decide_eq_true_eq]
    show at_ + t.delay < s.length ∨ iOut (taps.map toT) s ((at_ : Int) + (t.delay : Int)) = 0
    by_cases c : at_ + t.delay < s.length
    · exact .inl c
    · right
      by_cases z : iTotal (taps.map toT) s ((at_ : Int) + (t.delay : Int)) = 0
      · exact iOut_zero z
      · unfold iTotal at z
        rw [List.map_map] at z
        obtain ⟨u, hu, hn⟩ := sum_ne _ _ z
        have hn : u.gain * iSample s ((at_ : Int) + (t.delay : Int) - (u.delay : Int)) ≠ 0 := hn
        have hs : iSample s ((at_ : Int) + (t.delay : Int) - (u.delay : Int)) ≠ 0 := fun q => hn (by rw [q, Int.mul_zero])
        have inr : ¬ ((at_ : Int) + (t.delay : Int) - (u.delay : Int) < 0 ∨ (s.length : Int) ≤ (at_ : Int) + (t.delay : Int) - (u.delay : Int)) := fun q => hs (by unfold iSample; rw [if_pos q])
        have em : (s.length : Int) - 1 - ((s.length - 1 - (at_ + t.delay - u.delay) : Nat) : Int) = (at_ : Int) + (t.delay : Int) - (u.delay : Int) := by omega
        have hm : at_ + t.delay - (s.length - 1) ∈ shifts taps s.reverse := mem_shifts.mpr ⟨u, hu, s.length - 1 - (at_ + t.delay - u.delay), by omega, by rw [List.length_reverse]; omega, by rw [← samp, em]; exact hs, by omega⟩
        have k := h _ hm
        rw [behind_at taps s _ (by omega), beq_iff_eq, held_zero] at k
        rw [← k]
        congr 1
        omega
end Rt
namespace Rt
open Eh
/-! # Each call, by the specification -/
def whole (q : Q4) : Whole := ⟨q.x, q.y, q.z⟩
def specIC : IC → Ta.Call
  | .delay q a b => .delay q a b
  | .taps s e most band rate speed told book => .taps (whole s) (whole e) most band rate speed told (book.map Int.toNat)
  | .judge row => .judge row
  | .begin_ => .begin_
  | .set row => .set row
  | .get => .get
  | .run row => .run row
  | .past k => .past k
  | .at_ => .at_
  | .quiet => .quiet
/-- what is asked of a call's points and book -/
def TapsOk (c : IC) : Prop := ∀ p e most band rate speed told book, c = .taps p e most band rate speed told book → p.w = 1 ∧ e.w = 1 ∧ ∀ x ∈ book, 0 ≤ x
theorem book_at {book : List Int} (h : ∀ x ∈ book, 0 ≤ x) : bookOf (book.map Int.toNat) = if 0 ≤ iBook book then .error (iBook book).toNat else .ok ⟨(book.map Int.toNat).take (BANDS * STUFFS), (book.map Int.toNat).drop (BANDS * STUFFS)⟩ := by
  have e36 : BANDS * STUFFS + BANDS = 36 := rfl
  unfold bookOf iBook
  rw [e36, List.length_map]
  by_cases c : book.length ≠ 36
  · rw [if_pos c, if_pos c, if_pos (by omega), Int.toNat_natCast]
  · rw [if_neg c, if_neg c]
    have ef : ((book.map Int.toNat).findIdx? fun (x : Nat) => decide (WHOLE < x)) = book.findIdx? fun x => decide (32768 < x) := by
      rw [List.findIdx?_map]
      have key : ∀ l : List Int, (∀ x ∈ l, 0 ≤ x) → l.findIdx? ((fun (x : Nat) => decide (WHOLE < x)) ∘ Int.toNat) = l.findIdx? fun x => decide (32768 < x) := by
        intro l
        induction l with
        | nil => intro _; rfl
        | cons x l ih =>
          intro hl
          rw [List.findIdx?_cons, List.findIdx?_cons, ih fun y hy => hl y (List.mem_cons_of_mem _ hy)]
          have := hl x List.mem_cons_self
          have e : ((fun (x : Nat) => decide (WHOLE < x)) ∘ Int.toNat) x = decide (32768 < x) := by
            show decide (32768 < x.toNat) = decide (32768 < x)
            rw [decide_eq_decide]
            omega
          rw [e]
      exact key book h
    rw [ef]
    cases book.findIdx? fun x => decide (32768 < x) with
    | some i => dsimp only; rw [if_pos (by omega), Int.toNat_natCast]
    | none => dsimp only; rw [if_neg (by decide)]
theorem timed_at (a b : Nat) : timed a b = rateOk (a : Int) (b : Int) := by
  unfold timed rateOk RATE SPEED
  rw [Bool.eq_iff_iff]
  simp only [Bool.and_eq_true, decide_eq_true_eq]
  omega
theorem flat_at (l : List Tap) : l.flatMap tapNumbers = flatQ (l.map toT) := by
  unfold flatQ
  rw [List.flatMap_map]
  rfl
theorem bad_book {book : List Int} (h : ∀ x ∈ book, 0 ≤ x) (k : ¬ 0 ≤ iBook book) : (book.map Int.toNat).length = 36 ∧ ∀ x ∈ book.map Int.toNat, x ≤ 32768 := by
  unfold iBook at k
  by_cases c : book.length ≠ 36
  · rw [if_pos c] at k
    omega
  · rw [if_neg c] at k
    refine ⟨by rw [List.length_map]; omega, fun x hx => ?_⟩
    obtain ⟨y, hy, rfl⟩ := List.mem_map.mp hx
    cases f : book.findIdx? fun x => decide (32768 < x) with
    | some i => rw [f] at k; dsimp only at k; omega
    | none =>
      rw [List.findIdx?_eq_none_iff] at f
      have := of_decide_eq_false (f y hy)
      omega
theorem taps_at {p e : Q4} {most band rate speed : Nat} {l book : List Int} (p1 : p.w = 1) (e1 : e.w = 1) (hb : ∀ x ∈ book, 0 ≤ x) :
    TaNeutral.told (Ta.roomTaps (whole p) (whole e) most band rate speed l (book.map Int.toNat)) = ansOf (iCall2 p e most band rate speed l book) := by
  unfold Ta.roomTaps iCall2
  rw [roomOf_at, book_at hb]
  cases nf : iFault l with
  | some x => rfl
  | none =>
    dsimp only
    by_cases cb : 0 ≤ iBook book
    · rw [if_pos cb, if_pos cb]
      show [-6, (((iBook book).toNat : Nat) : Int)] = [-6, iBook book]
      rw [Int.toNat_of_nonneg cb]
    · rw [if_neg cb, if_neg cb]
      dsimp only
      obtain ⟨b36, bfew⟩ := bad_book hb cb
      have RO := roomOk_T nf
      generalize roomT l (tellN l) = r at *
      have e1' : (TURNS < most ∨ BANDS ≤ band ∨ timed rate speed = false) = ((rateOk (rate : Int) (speed : Int) && (decide (most ≤ 4) && decide (band ≤ 3))) = false) := by
        rw [timed_at]
        have t4 : TURNS = 4 := rfl
        have b4 : BANDS = 4 := rfl
        rw [t4, b4]
        apply propext
        simp only [Bool.and_eq_false_iff, decide_eq_false_iff_not]
        cases rateOk (rate : Int) (speed : Int)
        · simp
        · simp only [Bool.true_eq_false, or_false, false_or]; omega
      by_cases c1 : (rateOk (rate : Int) (speed : Int) && (decide (most ≤ 4) && decide (band ≤ 3))) = false
      · rw [if_pos (by rw [e1']; exact c1), if_pos c1]; rfl
      · rw [if_neg (by rw [e1']; exact c1), if_neg c1]
        have b3 : band ≤ 3 := by
          simp only [Bool.and_eq_false_iff, decide_eq_false_iff_not, not_or, Decidable.not_not] at c1
          exact c1.2.2
        have ip : r.inside (whole p).pt = iInside r p := (inside_at RO (at1 p1)).symm
        have ie : r.inside (whole e).pt = iInside r e := (inside_at RO (at1 e1)).symm
        rw [ip, ie]
        by_cases c2 : (iInside r p && iInside r e) = false
        · rw [if_pos (Bool.and_eq_false_iff.mp c2), if_pos c2]; rfl
        · rw [if_neg (fun z => c2 (Bool.and_eq_false_iff.mpr z)), if_neg c2]
          have c2 : iInside r p = true ∧ iInside r e = true := by simpa using c2
          have pp := paths_perm (s := p) (e := e) RO p1 e1 (ip.trans c2.1) (ie.trans c2.2) most
          have epair : ∀ q : Eh.Path, tapOf r ⟨(book.map Int.toNat).take (BANDS * STUFFS), (book.map Int.toNat).drop (BANDS * STUFFS)⟩ band rate speed q = mkTap (Eh.delay q.length2.toNat rate speed, gainOf r ⟨(book.map Int.toNat).take (BANDS * STUFFS), (book.map Int.toNat).drop (BANDS * STUFFS)⟩ band q) := fun _ => rfl
          have emap : ∀ L : List Eh.Path, L.map (tapOf r ⟨(book.map Int.toNat).take (BANDS * STUFFS), (book.map Int.toNat).drop (BANDS * STUFFS)⟩ band rate speed) = (L.map fun q => (Eh.delay q.length2.toNat rate speed, gainOf r ⟨(book.map Int.toNat).take (BANDS * STUFFS), (book.map Int.toNat).drop (BANDS * STUFFS)⟩ band q)).map mkTap := fun L => by
            rw [List.map_map]
            rfl
          have pp2 := pp.map fun q : Eh.Path => (Eh.delay q.length2.toNat rate speed, gainOf r ⟨(book.map Int.toNat).take (BANDS * STUFFS), (book.map Int.toNat).drop (BANDS * STUFFS)⟩ band q)
          have eq2 : (((iPaths r p e most).map toP).map fun q : Eh.Path => (Eh.delay q.length2.toNat rate speed, gainOf r ⟨(book.map Int.toNat).take (BANDS * STUFFS), (book.map Int.toNat).drop (BANDS * STUFFS)⟩ band q)) = (iPairs r p e most rate speed).map (gainQ r (book.map Int.toNat) band) := by
            unfold iPairs
            rw [List.map_map, List.map_map]
            refine List.map_congr_left fun q _ => ?_
            show (Eh.delay q.square.toNat rate speed, gain r ⟨(book.map Int.toNat).take (BANDS * STUFFS), (book.map Int.toNat).drop (BANDS * STUFFS)⟩ band q.square.toNat q.walls) = (iDelay q.square.toNat rate speed, iGain r (book.map Int.toNat) band q.square.toNat q.walls)
            rw [delay_at, gain_at RO b36 b3]
          rw [eq2] at pp2
          have gle : ∀ x ∈ (iPairs r p e most rate speed).map (gainQ r (book.map Int.toNat) band), ((x.2 : Nat) : Int) ≤ LOUD := fun x hx => by
            obtain ⟨y, _, rfl⟩ := List.mem_map.mp hx
            unfold gainQ
            exact gain_bd bfew
          have tp := (taps_perm pp2.symm gle).symm
          have ew : (whole p).pt = pt1 p := rfl
          have ew2 : (whole e).pt = pt1 e := rfl
          rw [ew, ew2]
          rw [emap, tp]
          have ea : ((((r.paths (pt1 p) (pt1 e) most).map fun q => (Eh.delay q.length2.toNat rate speed, gainOf r ⟨(book.map Int.toNat).take (BANDS * STUFFS), (book.map Int.toNat).drop (BANDS * STUFFS)⟩ band q)).map mkTap).any fun (t : Tap) => decide (LATEST < t.delay)) = !((iPairs r p e most rate speed).all fun p => decide (p.2 ≤ 262143)) := by
            rw [(pp2.map mkTap).any_eq, List.any_map, List.any_map]
            rw [List.not_all_eq_any_not]
            congr 1
            funext q
            show decide (262143 < q.2) = !decide (q.2 ≤ 262143)
            rw [Bool.eq_iff_iff]
            simp
          rw [ea]
          cases c3 : (iPairs r p e most rate speed).all fun p => decide (p.2 ≤ 262143) with
          | false => rfl
          | true =>
            rw [if_neg (show ¬ ((!true) = true) by decide), if_neg (show ¬ (true = false) by decide)]
            have el : (iTaps2 r (book.map Int.toNat) band (iPairs r p e most rate speed)).length = (tapsOf (((iPairs r p e most rate speed).map (gainQ r (book.map Int.toNat) band)).map mkTap)).length := by
              unfold iTaps2
              rw [List.length_map]
            rw [el]
            have T : TAPS = 4096 := rfl
            rw [T]
            by_cases c4 : 4096 < (tapsOf (((iPairs r p e most rate speed).map (gainQ r (book.map Int.toNat) band)).map mkTap)).length
            · rw [if_pos c4, if_pos c4]; rfl
            · rw [if_neg c4, if_neg c4]
              show 0 :: (tapsOf (((iPairs r p e most rate speed).map (gainQ r (book.map Int.toNat) band)).map mkTap)).flatMap tapNumbers = 0 :: flatQ (iTaps2 r (book.map Int.toNat) band (iPairs r p e most rate speed))
              rw [flat_at]
              rfl
/-- a line and the specification's -/
structure Rl (st : LineS) (w : Ta.State) : Prop where
  taps : w.taps.map toT = st.1
  past : w.past = st.2.reverse
theorem toT_back (u : List (Nat × Int)) : (u.map tapOfP).map toT = u := by
  rw [List.map_map]
  exact List.map_id'' (fun _ => rfl) u
theorem step_at {st : LineS} {w : Ta.State} (R : Rl st w) {c : IC} (ok : TapsOk c) : TaNeutral.told (Ta.step w (specIC c)).2 = ansOf (iAns st.1 st.2 c).1 ∧ Rl (iAns st.1 st.2 c).2 (Ta.step w (specIC c)).1 := by
  obtain ⟨t, s⟩ := st
  obtain ⟨wt, wp⟩ := w
  obtain ⟨rt, rp⟩ := R
  dsimp only at rt rp
  subst rt rp
  cases c with
  | delay q a b =>
    refine ⟨?_, ⟨rfl, rfl⟩⟩
    show TaNeutral.told (if timed a b = false then .refused 1 else if Ta.FARTHEST < q ∨ LATEST < Eh.delay q a b then .refused 4 else .nums [(Eh.delay q a b : Int)]) = ansOf (delayQ q a b)
    unfold delayQ
    have F : Ta.FARTHEST = 1099511627776 := by decide
    have L : LATEST = 262143 := rfl
    rw [timed_at, F, L, delay_at]
    by_cases c1 : rateOk (a : Int) (b : Int) = false
    · rw [if_pos c1, if_pos c1]; rfl
    · rw [if_neg c1, if_neg c1]
      by_cases c2 : 1099511627776 < q
      · rw [if_pos (.inl c2), if_pos c2]; rfl
      · rw [if_neg c2]
        by_cases c3 : 262143 < Eh.delay q a b
        · rw [if_pos (.inr c3), if_pos c3]; rfl
        · rw [if_neg (by omega), if_neg c3]; rfl
  | taps p e most band rate speed l book =>
    obtain ⟨p1, e1, hb⟩ := ok _ _ _ _ _ _ _ _ rfl
    exact ⟨taps_at p1 e1 hb, ⟨rfl, rfl⟩⟩
  | judge row =>
    refine ⟨?_, ⟨rfl, rfl⟩⟩
    obtain ⟨h1, h2⟩ := read_at row fun _ => Ta.Answer.nums []
    show TaNeutral.told (Ta.ofTaps row fun _ => .nums []) = ansOf (match iRead row with | .ok _ => .ok [0] | .error l => .error l)
    cases e : iRead row with
    | ok u => rw [(h2 u e).2]; rfl
    | error l => rw [(h1 l e).1]; rfl
  | begin_ => exact ⟨rfl, ⟨rfl, rfl⟩⟩
  | set row =>
    obtain ⟨h1, h2⟩ := read_at row fun _ => Ta.Answer.nums []
    have key : ∀ v : Ta.State × Ta.Answer, v = (match Ta.ofTaps row fun _ => Ta.Answer.nums [], tapsIn row with
      | .nums _, some t => ((⟨t, s.reverse⟩ : Ta.State), Ta.Answer.nums [])
      | a, _ => ((⟨wt, s.reverse⟩ : Ta.State), a)) → TaNeutral.told v.2 = ansOf (match iRead row with | .ok u => (.ok [0], u, s) | .error l => (.error l, wt.map toT, s) : Except (List Int) (List Int) × LineS).1 ∧ Rl (match iRead row with | .ok u => (.ok [0], u, s) | .error l => (.error l, wt.map toT, s) : Except (List Int) (List Int) × LineS).2 v.1 := by
      intro v hv
      cases e : iRead row with
      | ok u =>
        obtain ⟨k1, k2⟩ := h2 u e
        rw [k1, k2] at hv
        subst hv
        exact ⟨rfl, ⟨toT_back u, rfl⟩⟩
      | error l =>
        obtain ⟨k1, k2⟩ := h1 l e
        generalize (Ta.ofTaps row fun _ => Ta.Answer.nums []) = a at *
        cases a with
        | nums x => exact absurd rfl (k2 x)
        | refused n => subst hv; exact ⟨k1, ⟨rfl, rfl⟩⟩
        | fault n => subst hv; exact ⟨k1, ⟨rfl, rfl⟩⟩
        | book n => subst hv; exact ⟨k1, ⟨rfl, rfl⟩⟩
        | tap n => subst hv; exact ⟨k1, ⟨rfl, rfl⟩⟩
        | number n => subst hv; exact ⟨k1, ⟨rfl, rfl⟩⟩
    exact key _ rfl
  | get =>
    refine ⟨?_, ⟨rfl, rfl⟩⟩
    show 0 :: wt.flatMap tapNumbers = 0 :: flatQ (wt.map toT)
    rw [flat_at]
  | run row =>
    have es : row.all Ta.sampleOk = samplesOk row := by
      unfold samplesOk
      congr 1
    obtain ⟨r1, r2⟩ := run_at wt row s
    have key : ∀ v : Ta.State × Ta.Answer, v = (if row.all Ta.sampleOk = false then ((⟨wt, s.reverse⟩ : Ta.State), Ta.Answer.refused 1) else let r := through wt s.reverse row
      ((⟨wt, r.2⟩ : Ta.State), Ta.Answer.nums ((heldIn wt s.reverse row : Int) :: r.1))) → TaNeutral.told v.2 = ansOf (if samplesOk row = false then (.error [-1], wt.map toT, s) else (.ok (0 :: iRun (wt.map toT) s row), wt.map toT, s ++ row) : Except (List Int) (List Int) × LineS).1 ∧ Rl (if samplesOk row = false then (.error [-1], wt.map toT, s) else (.ok (0 :: iRun (wt.map toT) s row), wt.map toT, s ++ row) : Except (List Int) (List Int) × LineS).2 v.1 := by
      intro v hv
      rw [es] at hv
      by_cases c : samplesOk row = false
      · rw [if_pos c] at hv ⊢
        subst hv
        exact ⟨rfl, ⟨rfl, rfl⟩⟩
      · rw [if_neg c] at hv ⊢
        dsimp only at hv
        rw [r1, r2] at hv
        subst hv
        exact ⟨rfl, ⟨rfl, rfl⟩⟩
    exact key _ rfl
  | past k =>
    refine ⟨?_, ⟨rfl, rfl⟩⟩
    show TaNeutral.told (if LATEST < k then .refused 1 else .nums [s.reverse.getD k 0]) = ansOf (if 262143 < k then .error [-1] else .ok [0, iPast s (k : Int)])
    have L : LATEST = 262143 := rfl
    rw [L]
    by_cases c : 262143 < k
    · rw [if_pos c, if_pos c]; rfl
    · rw [if_neg c, if_neg c]
      show [0, s.reverse.getD k 0] = [0, iPast s (k : Int)]
      unfold iPast
      rw [samp]
  | at_ =>
    refine ⟨?_, ⟨rfl, rfl⟩⟩
    show [((s.reverse.length : Nat) : Int)] = [((s.length : Nat) : Int)]
    rw [List.length_reverse]
  | quiet =>
    refine ⟨?_, ⟨rfl, rfl⟩⟩
    show [(((if Eh.quiet wt s.reverse = true then 1 else 0 : Nat) : Nat) : Int)] = [if iQuiet (wt.map toT) s = true then (1 : Int) else 0]
    rw [quiet_at]
    split <;> rfl
end Rt
set_option Elab.async false
set_option linter.all false
set_option maxRecDepth 100000
set_option maxHeartbeats 4000000
namespace Rt
open PySem PySem.Spec PyProof.Rows L2
/-- what the top leaves, over a base heap -/
structure Tx (K : PySem.W.Frag) (mg : Str → Option Value) (base : Heap) : Prop where
  s : SaysR K
  kin : K.In base
  ns : base.Ns mainGlobals mg
section
variable {P : Program} {w : World} {K : PySem.W.Frag} {mg : Str → Option Value} {base : Heap}
theorem int_gc {x : Str} {i : Int} (h : ∃ t, mg x = some (.int i t)) : ∃ u, mg x = some u ∧ RelV (.int i) u := by
  obtain ⟨t, e⟩ := h
  exact ⟨_, e, t, rfl⟩
theorem ref_gc {x : Str} {a : Addr} (h : mg x = some (.ref a)) : ∃ u, mg x = some u ∧ RelV (.ref a) u := ⟨_, h, rfl⟩
theorem Tx.c_MANY (T : Tx K mg base) : ∃ u, mg "MANY" = some u ∧ RelV (.int 36) u := int_gc (He.int_ok T.kin T.ns (T.s.d.fact 0 rfl))
theorem Tx.c_BANDS (T : Tx K mg base) : ∃ u, mg "BANDS" = some u ∧ RelV (.int 4) u := int_gc (He.int_ok T.kin T.ns (T.s.d.fact 1 rfl))
theorem Tx.c_AIR (T : Tx K mg base) : ∃ u, mg "AIR" = some u ∧ RelV (.int 32) u := int_gc (He.int_ok T.kin T.ns (T.s.d.fact 2 rfl))
theorem Tx.c_PART (T : Tx K mg base) : ∃ u, mg "PART" = some u ∧ RelV (.int 32768) u := int_gc (He.int_ok T.kin T.ns (T.s.d.fact 3 rfl))
theorem Tx.c_PART_BITS (T : Tx K mg base) : ∃ u, mg "PART_BITS" = some u ∧ RelV (.int 15) u := int_gc (He.int_ok T.kin T.ns (T.s.d.fact 4 rfl))
theorem Tx.c_STRETCH (T : Tx K mg base) : ∃ u, mg "STRETCH" = some u ∧ RelV (.int 1024) u := int_gc (He.int_ok T.kin T.ns (T.s.d.fact 5 rfl))
theorem Tx.c_GAIN_BITS (T : Tx K mg base) : ∃ u, mg "GAIN_BITS" = some u ∧ RelV (.int 32) u := int_gc (He.int_ok T.kin T.ns (T.s.d.fact 6 rfl))
theorem Tx.c_MOST_GAIN (T : Tx K mg base) : ∃ u, mg "MOST_GAIN" = some u ∧ RelV (.int 1099511627776) u := int_gc (He.int_ok T.kin T.ns (T.s.d.fact 7 rfl))
theorem Tx.c_MOST_DELAY (T : Tx K mg base) : ∃ u, mg "MOST_DELAY" = some u ∧ RelV (.int 262143) u := int_gc (He.int_ok T.kin T.ns (T.s.d.fact 8 rfl))
theorem Tx.g_book_fault (T : Tx K mg base) : mg "book_fault" = some (.ref (He.ga K "book_fault")) := He.glo_ok T.kin T.ns (T.s.d.fact 9 rfl)
theorem Tx.g_whole_root (T : Tx K mg base) : mg "whole_root" = some (.ref (He.ga K "whole_root")) := He.glo_ok T.kin T.ns (T.s.d.fact 10 rfl)
theorem Tx.g_nearest_root (T : Tx K mg base) : mg "nearest_root" = some (.ref (He.ga K "nearest_root")) := He.glo_ok T.kin T.ns (T.s.d.fact 11 rfl)
theorem Tx.g_delay_of (T : Tx K mg base) : mg "delay_of" = some (.ref (He.ga K "delay_of")) := He.glo_ok T.kin T.ns (T.s.d.fact 12 rfl)
theorem Tx.g_gain_of (T : Tx K mg base) : mg "gain_of" = some (.ref (He.ga K "gain_of")) := He.glo_ok T.kin T.ns (T.s.d.fact 13 rfl)
theorem Tx.g_taps_of (T : Tx K mg base) : mg "taps_of" = some (.ref (He.ga K "taps_of")) := He.glo_ok T.kin T.ns (T.s.d.fact 14 rfl)
theorem Tx.c_HALF_BITS (T : Tx K mg base) : ∃ u, mg "HALF_BITS" = some u ∧ RelV (.int 25) u := int_gc (He.int_ok T.kin T.ns (T.s.d.fact 15 rfl))
theorem Tx.c_UNIT (T : Tx K mg base) : ∃ u, mg "UNIT" = some u ∧ RelV (.int 16777216) u := int_gc (He.int_ok T.kin T.ns (T.s.d.fact 16 rfl))
theorem Tx.c_LEAST (T : Tx K mg base) : ∃ u, mg "LEAST" = some u ∧ RelV (.int (-2147483648)) u := int_gc (He.int_ok T.kin T.ns (T.s.d.fact 17 rfl))
theorem Tx.c_GREATEST (T : Tx K mg base) : ∃ u, mg "GREATEST" = some u ∧ RelV (.int 2147483647) u := int_gc (He.int_ok T.kin T.ns (T.s.d.fact 18 rfl))
theorem Tx.g_held (T : Tx K mg base) : mg "held" = some (.ref (He.ga K "held")) := He.glo_ok T.kin T.ns (T.s.d.fact 19 rfl)
theorem Tx.g_Line (T : Tx K mg base) : mg "Line" = some (.ref (He.ga K "Line")) := He.glo_ok T.kin T.ns (T.s.d.fact 20 rfl)
theorem Tx.c_MOST (T : Tx K mg base) : ∃ u, mg "MOST" = some u ∧ RelV (.int 4095) u := int_gc (He.int_ok T.kin T.ns (T.s.d.fact 21 rfl))
theorem Tx.c_LEAST_CORNERS (T : Tx K mg base) : ∃ u, mg "LEAST_CORNERS" = some u ∧ RelV (.int 3) u := int_gc (He.int_ok T.kin T.ns (T.s.d.fact 22 rfl))
theorem Tx.c_MOST_CORNERS (T : Tx K mg base) : ∃ u, mg "MOST_CORNERS" = some u ∧ RelV (.int 64) u := int_gc (He.int_ok T.kin T.ns (T.s.d.fact 23 rfl))
theorem Tx.c_MOST_STUFF (T : Tx K mg base) : ∃ u, mg "MOST_STUFF" = some u ∧ RelV (.int 7) u := int_gc (He.int_ok T.kin T.ns (T.s.d.fact 24 rfl))
theorem Tx.g_Fault (T : Tx K mg base) : mg "Fault" = some (.ref (He.ga K "Fault")) := He.glo_ok T.kin T.ns (T.s.d.fact 25 rfl)
theorem Tx.g_must (T : Tx K mg base) : mg "must" = some (.ref (He.ga K "must")) := He.glo_ok T.kin T.ns (T.s.d.fact 26 rfl)
theorem Tx.g_must_rooms (T : Tx K mg base) : mg "must_rooms" = some (.ref (He.ga K "must_rooms")) := He.glo_ok T.kin T.ns (T.s.d.fact 27 rfl)
theorem Tx.g_sign (T : Tx K mg base) : mg "sign" = some (.ref (He.ga K "sign")) := He.glo_ok T.kin T.ns (T.s.d.fact 28 rfl)
theorem Tx.g_cross (T : Tx K mg base) : mg "cross" = some (.ref (He.ga K "cross")) := He.glo_ok T.kin T.ns (T.s.d.fact 29 rfl)
theorem Tx.g_Room (T : Tx K mg base) : mg "Room" = some (.ref (He.ga K "Room")) := He.glo_ok T.kin T.ns (T.s.d.fact 30 rfl)
theorem Tx.g_has_direction (T : Tx K mg base) : mg "has_direction" = some (.ref (He.ga K "has_direction")) := He.glo_ok T.kin T.ns (T.s.d.fact 31 rfl)
theorem Tx.g_meet (T : Tx K mg base) : mg "meet" = some (.ref (He.ga K "meet")) := He.glo_ok T.kin T.ns (T.s.d.fact 32 rfl)
theorem Tx.g_are_apart (T : Tx K mg base) : mg "are_apart" = some (.ref (He.ga K "are_apart")) := He.glo_ok T.kin T.ns (T.s.d.fact 33 rfl)
theorem Tx.g_area (T : Tx K mg base) : mg "area" = some (.ref (He.ga K "area")) := He.glo_ok T.kin T.ns (T.s.d.fact 34 rfl)
theorem Tx.g_read_room (T : Tx K mg base) : mg "read_room" = some (.ref (He.ga K "read_room")) := He.glo_ok T.kin T.ns (T.s.d.fact 35 rfl)
theorem Tx.g_common_divisor (T : Tx K mg base) : mg "common_divisor" = some (.ref (He.ga K "common_divisor")) := He.glo_ok T.kin T.ns (T.s.d.fact 36 rfl)
theorem Tx.g_point_of (T : Tx K mg base) : mg "point_of" = some (.ref (He.ga K "point_of")) := He.glo_ok T.kin T.ns (T.s.d.fact 37 rfl)
theorem Tx.g_between (T : Tx K mg base) : mg "between" = some (.ref (He.ga K "between")) := He.glo_ok T.kin T.ns (T.s.d.fact 38 rfl)
theorem Tx.g_direction (T : Tx K mg base) : mg "direction" = some (.ref (He.ga K "direction")) := He.glo_ok T.kin T.ns (T.s.d.fact 39 rfl)
theorem Tx.g_from_corner (T : Tx K mg base) : mg "from_corner" = some (.ref (He.ga K "from_corner")) := He.glo_ok T.kin T.ns (T.s.d.fact 40 rfl)
theorem Tx.g_ahead (T : Tx K mg base) : mg "ahead" = some (.ref (He.ga K "ahead")) := He.glo_ok T.kin T.ns (T.s.d.fact 41 rfl)
theorem Tx.g_is_blocked_along (T : Tx K mg base) : mg "is_blocked_along" = some (.ref (He.ga K "is_blocked_along")) := He.glo_ok T.kin T.ns (T.s.d.fact 42 rfl)
theorem Tx.g_is_blocked (T : Tx K mg base) : mg "is_blocked" = some (.ref (He.ga K "is_blocked")) := He.glo_ok T.kin T.ns (T.s.d.fact 43 rfl)
theorem Tx.g_is_clear (T : Tx K mg base) : mg "is_clear" = some (.ref (He.ga K "is_clear")) := He.glo_ok T.kin T.ns (T.s.d.fact 44 rfl)
theorem Tx.g_met (T : Tx K mg base) : mg "met" = some (.ref (He.ga K "met")) := He.glo_ok T.kin T.ns (T.s.d.fact 45 rfl)
theorem Tx.g_Path (T : Tx K mg base) : mg "Path" = some (.ref (He.ga K "Path")) := He.glo_ok T.kin T.ns (T.s.d.fact 46 rfl)
theorem Tx.g_is_path (T : Tx K mg base) : mg "is_path" = some (.ref (He.ga K "is_path")) := He.glo_ok T.kin T.ns (T.s.d.fact 47 rfl)
theorem Tx.g_square_between (T : Tx K mg base) : mg "square_between" = some (.ref (He.ga K "square_between")) := He.glo_ok T.kin T.ns (T.s.d.fact 48 rfl)
theorem Tx.g_longer (T : Tx K mg base) : mg "longer" = some (.ref (He.ga K "longer")) := He.glo_ok T.kin T.ns (T.s.d.fact 49 rfl)
theorem Tx.g_paths (T : Tx K mg base) : mg "paths" = some (.ref (He.ga K "paths")) := He.glo_ok T.kin T.ns (T.s.d.fact 50 rfl)
theorem Tx.c_MOST_RATE (T : Tx K mg base) : ∃ u, mg "MOST_RATE" = some u ∧ RelV (.int 192000) u := int_gc (He.int_ok T.kin T.ns (T.s.d.fact 51 rfl))
theorem Tx.c_MOST_SPEED (T : Tx K mg base) : ∃ u, mg "MOST_SPEED" = some u ∧ RelV (.int 1048576) u := int_gc (He.int_ok T.kin T.ns (T.s.d.fact 52 rfl))
theorem Tx.c_MOST_SQUARE (T : Tx K mg base) : ∃ u, mg "MOST_SQUARE" = some u ∧ RelV (.int 1099511627776) u := int_gc (He.int_ok T.kin T.ns (T.s.d.fact 53 rfl))
theorem Tx.c_MOST_TURNS (T : Tx K mg base) : ∃ u, mg "MOST_TURNS" = some u ∧ RelV (.int 4) u := int_gc (He.int_ok T.kin T.ns (T.s.d.fact 54 rfl))
theorem Tx.c_MOST_BAND (T : Tx K mg base) : ∃ u, mg "MOST_BAND" = some u ∧ RelV (.int 3) u := int_gc (He.int_ok T.kin T.ns (T.s.d.fact 55 rfl))
theorem Tx.c_MOST_TAPS (T : Tx K mg base) : ∃ u, mg "MOST_TAPS" = some u ∧ RelV (.int 4096) u := int_gc (He.int_ok T.kin T.ns (T.s.d.fact 56 rfl))
theorem Tx.g_NUMBERS (T : Tx K mg base) : mg "NUMBERS" = some (.ref (He.ga K "NUMBERS")) := He.glo_ok T.kin T.ns (T.s.d.fact 57 rfl)
theorem Tx.g_LISTS (T : Tx K mg base) : mg "LISTS" = some (.ref (He.ga K "LISTS")) := He.glo_ok T.kin T.ns (T.s.d.fact 58 rfl)
theorem Tx.g_Refused (T : Tx K mg base) : mg "Refused" = some (.ref (He.ga K "Refused")) := He.glo_ok T.kin T.ns (T.s.d.fact 59 rfl)
theorem Tx.g_must_taps (T : Tx K mg base) : mg "must_taps" = some (.ref (He.ga K "must_taps")) := He.glo_ok T.kin T.ns (T.s.d.fact 60 rfl)
theorem Tx.g_is_rate (T : Tx K mg base) : mg "is_rate" = some (.ref (He.ga K "is_rate")) := He.glo_ok T.kin T.ns (T.s.d.fact 61 rfl)
theorem Tx.g_delay (T : Tx K mg base) : mg "delay" = some (.ref (He.ga K "delay")) := He.glo_ok T.kin T.ns (T.s.d.fact 62 rfl)
theorem Tx.g_room_in (T : Tx K mg base) : mg "room_in" = some (.ref (He.ga K "room_in")) := He.glo_ok T.kin T.ns (T.s.d.fact 63 rfl)
theorem Tx.g_flat (T : Tx K mg base) : mg "flat" = some (.ref (He.ga K "flat")) := He.glo_ok T.kin T.ns (T.s.d.fact 64 rfl)
theorem Tx.g_taps (T : Tx K mg base) : mg "taps" = some (.ref (He.ga K "taps")) := He.glo_ok T.kin T.ns (T.s.d.fact 65 rfl)
theorem Tx.g_read_taps (T : Tx K mg base) : mg "read_taps" = some (.ref (He.ga K "read_taps")) := He.glo_ok T.kin T.ns (T.s.d.fact 66 rfl)
theorem Tx.g_Desk (T : Tx K mg base) : mg "Desk" = some (.ref (He.ga K "Desk")) := He.glo_ok T.kin T.ns (T.s.d.fact 67 rfl)
theorem Tx.g_call_at (T : Tx K mg base) : mg "call_at" = some (.ref (He.ga K "call_at")) := He.glo_ok T.kin T.ns (T.s.d.fact 68 rfl)
theorem Tx.g_answers (T : Tx K mg base) : mg "answers" = some (.ref (He.ga K "answers")) := He.glo_ok T.kin T.ns (T.s.d.fact 69 rfl)
theorem Tx.n_ValueError (T : Tx K mg base) : mg "ValueError" = none := He.free_ok T.kin T.ns (T.s.d.fact 70 rfl)
theorem Tx.n_abs (T : Tx K mg base) : mg "abs" = none := He.free_ok T.kin T.ns (T.s.d.fact 71 rfl)
theorem Tx.n_all (T : Tx K mg base) : mg "all" = none := He.free_ok T.kin T.ns (T.s.d.fact 72 rfl)
theorem Tx.n_any (T : Tx K mg base) : mg "any" = none := He.free_ok T.kin T.ns (T.s.d.fact 73 rfl)
theorem Tx.n_enumerate (T : Tx K mg base) : mg "enumerate" = none := He.free_ok T.kin T.ns (T.s.d.fact 74 rfl)
theorem Tx.n_int (T : Tx K mg base) : mg "int" = none := He.free_ok T.kin T.ns (T.s.d.fact 75 rfl)
theorem Tx.n_len (T : Tx K mg base) : mg "len" = none := He.free_ok T.kin T.ns (T.s.d.fact 76 rfl)
theorem Tx.n_list (T : Tx K mg base) : mg "list" = none := He.free_ok T.kin T.ns (T.s.d.fact 77 rfl)
theorem Tx.n_max (T : Tx K mg base) : mg "max" = none := He.free_ok T.kin T.ns (T.s.d.fact 78 rfl)
theorem Tx.n_min (T : Tx K mg base) : mg "min" = none := He.free_ok T.kin T.ns (T.s.d.fact 79 rfl)
theorem Tx.n_range (T : Tx K mg base) : mg "range" = none := He.free_ok T.kin T.ns (T.s.d.fact 80 rfl)
theorem Tx.n_reversed (T : Tx K mg base) : mg "reversed" = none := He.free_ok T.kin T.ns (T.s.d.fact 81 rfl)
theorem Tx.n_sorted (T : Tx K mg base) : mg "sorted" = none := He.free_ok T.kin T.ns (T.s.d.fact 82 rfl)
theorem Tx.n_sum (T : Tx K mg base) : mg "sum" = none := He.free_ok T.kin T.ns (T.s.d.fact 83 rfl)
theorem Tx.n_zip (T : Tx K mg base) : mg "zip" = none := He.free_ok T.kin T.ns (T.s.d.fact 84 rfl)
theorem Tx.k_Line (T : Tx K mg base) : Cls K (He.ga K "Line") := He.cls_ok (T.s.d.fact 85 rfl)
theorem Tx.m_Line (T : Tx K mg base) : Mk K (He.ga K "Line") (He.ma K (He.ga K "Line") "__init__") := He.mkr_ok (T.s.d.fact 86 rfl)
theorem Tx.a_Line_taps (T : Tx K mg base) : NoAttr K (He.ga K "Line") "taps" := He.noat_ok (T.s.d.fact 87 rfl)
theorem Tx.a_Line_samples (T : Tx K mg base) : NoAttr K (He.ga K "Line") "samples" := He.noat_ok (T.s.d.fact 88 rfl)
theorem Tx.t_Line_sample (T : Tx K mg base) : Meth K (He.ga K "Line") "sample" (He.ma K (He.ga K "Line") "sample") := He.meth_ok (T.s.d.fact 89 rfl)
theorem Tx.t_Line_out (T : Tx K mg base) : Meth K (He.ga K "Line") "out" (He.ma K (He.ga K "Line") "out") := He.meth_ok (T.s.d.fact 90 rfl)
theorem Tx.t_Line_run (T : Tx K mg base) : Meth K (He.ga K "Line") "run" (He.ma K (He.ga K "Line") "run") := He.meth_ok (T.s.d.fact 91 rfl)
theorem Tx.t_Line_past (T : Tx K mg base) : Meth K (He.ga K "Line") "past" (He.ma K (He.ga K "Line") "past") := He.meth_ok (T.s.d.fact 92 rfl)
theorem Tx.t_Line_is_quiet (T : Tx K mg base) : Meth K (He.ga K "Line") "is_quiet" (He.ma K (He.ga K "Line") "is_quiet") := He.meth_ok (T.s.d.fact 93 rfl)
theorem Tx.k_Room (T : Tx K mg base) : Cls K (He.ga K "Room") := He.cls_ok (T.s.d.fact 94 rfl)
theorem Tx.m_Room (T : Tx K mg base) : Mk K (He.ga K "Room") (He.ma K (He.ga K "Room") "__init__") := He.mkr_ok (T.s.d.fact 95 rfl)
theorem Tx.a_Room_height (T : Tx K mg base) : NoAttr K (He.ga K "Room") "height" := He.noat_ok (T.s.d.fact 96 rfl)
theorem Tx.a_Room_corners (T : Tx K mg base) : NoAttr K (He.ga K "Room") "corners" := He.noat_ok (T.s.d.fact 97 rfl)
theorem Tx.a_Room_stuffs (T : Tx K mg base) : NoAttr K (He.ga K "Room") "stuffs" := He.noat_ok (T.s.d.fact 98 rfl)
theorem Tx.t_Room_many (T : Tx K mg base) : Meth K (He.ga K "Room") "many" (He.ma K (He.ga K "Room") "many") := He.meth_ok (T.s.d.fact 99 rfl)
theorem Tx.t_Room_corner (T : Tx K mg base) : Meth K (He.ga K "Room") "corner" (He.ma K (He.ga K "Room") "corner") := He.meth_ok (T.s.d.fact 100 rfl)
theorem Tx.t_Room_direction (T : Tx K mg base) : Meth K (He.ga K "Room") "direction" (He.ma K (He.ga K "Room") "direction") := He.meth_ok (T.s.d.fact 101 rfl)
theorem Tx.t_Room_beside (T : Tx K mg base) : Meth K (He.ga K "Room") "beside" (He.ma K (He.ga K "Room") "beside") := He.meth_ok (T.s.d.fact 102 rfl)
theorem Tx.t_Room_side (T : Tx K mg base) : Meth K (He.ga K "Room") "side" (He.ma K (He.ga K "Room") "side") := He.meth_ok (T.s.d.fact 103 rfl)
theorem Tx.t_Room_mirrored (T : Tx K mg base) : Meth K (He.ga K "Room") "mirrored" (He.ma K (He.ga K "Room") "mirrored") := He.meth_ok (T.s.d.fact 104 rfl)
theorem Tx.t_Room_along (T : Tx K mg base) : Meth K (He.ga K "Room") "along" (He.ma K (He.ga K "Room") "along") := He.meth_ok (T.s.d.fact 105 rfl)
theorem Tx.t_Room_size (T : Tx K mg base) : Meth K (He.ga K "Room") "size" (He.ma K (He.ga K "Room") "size") := He.meth_ok (T.s.d.fact 106 rfl)
theorem Tx.t_Room_is_on (T : Tx K mg base) : Meth K (He.ga K "Room") "is_on" (He.ma K (He.ga K "Room") "is_on") := He.meth_ok (T.s.d.fact 107 rfl)
theorem Tx.t_Room_turns (T : Tx K mg base) : Meth K (He.ga K "Room") "turns" (He.ma K (He.ga K "Room") "turns") := He.meth_ok (T.s.d.fact 108 rfl)
theorem Tx.t_Room_is_within (T : Tx K mg base) : Meth K (He.ga K "Room") "is_within" (He.ma K (He.ga K "Room") "is_within") := He.meth_ok (T.s.d.fact 109 rfl)
theorem Tx.t_Room_has_height (T : Tx K mg base) : Meth K (He.ga K "Room") "has_height" (He.ma K (He.ga K "Room") "has_height") := He.meth_ok (T.s.d.fact 110 rfl)
theorem Tx.t_Room_is_inside (T : Tx K mg base) : Meth K (He.ga K "Room") "is_inside" (He.ma K (He.ga K "Room") "is_inside") := He.meth_ok (T.s.d.fact 111 rfl)
theorem Tx.t_Room_is_open (T : Tx K mg base) : Meth K (He.ga K "Room") "is_open" (He.ma K (He.ga K "Room") "is_open") := He.meth_ok (T.s.d.fact 112 rfl)
theorem Tx.k_Path (T : Tx K mg base) : Cls K (He.ga K "Path") := He.cls_ok (T.s.d.fact 113 rfl)
theorem Tx.m_Path (T : Tx K mg base) : Mk K (He.ga K "Path") (He.ma K (He.ga K "Path") "__init__") := He.mkr_ok (T.s.d.fact 114 rfl)
theorem Tx.a_Path_square (T : Tx K mg base) : NoAttr K (He.ga K "Path") "square" := He.noat_ok (T.s.d.fact 115 rfl)
theorem Tx.a_Path_walls (T : Tx K mg base) : NoAttr K (He.ga K "Path") "walls" := He.noat_ok (T.s.d.fact 116 rfl)
theorem Tx.k_Desk (T : Tx K mg base) : Cls K (He.ga K "Desk") := He.cls_ok (T.s.d.fact 117 rfl)
theorem Tx.m_Desk (T : Tx K mg base) : Mk K (He.ga K "Desk") (He.ma K (He.ga K "Desk") "__init__") := He.mkr_ok (T.s.d.fact 118 rfl)
theorem Tx.a_Desk_line (T : Tx K mg base) : NoAttr K (He.ga K "Desk") "line" := He.noat_ok (T.s.d.fact 119 rfl)
theorem Tx.t_Desk_begin (T : Tx K mg base) : Meth K (He.ga K "Desk") "begin" (He.ma K (He.ga K "Desk") "begin") := He.meth_ok (T.s.d.fact 120 rfl)
theorem Tx.t_Desk_put (T : Tx K mg base) : Meth K (He.ga K "Desk") "put" (He.ma K (He.ga K "Desk") "put") := He.meth_ok (T.s.d.fact 121 rfl)
theorem Tx.t_Desk_run (T : Tx K mg base) : Meth K (He.ga K "Desk") "run" (He.ma K (He.ga K "Desk") "run") := He.meth_ok (T.s.d.fact 122 rfl)
theorem Tx.t_Desk_past (T : Tx K mg base) : Meth K (He.ga K "Desk") "past" (He.ma K (He.ga K "Desk") "past") := He.meth_ok (T.s.d.fact 123 rfl)
theorem Tx.t_Desk_answered (T : Tx K mg base) : Meth K (He.ga K "Desk") "answered" (He.ma K (He.ga K "Desk") "answered") := He.meth_ok (T.s.d.fact 124 rfl)
theorem Tx.t_Desk_called (T : Tx K mg base) : Meth K (He.ga K "Desk") "called" (He.ma K (He.ga K "Desk") "called") := He.meth_ok (T.s.d.fact 125 rfl)
theorem Tx.e_Fault_Fault (T : Tx K mg base) : PySem.W.exmOne K (.ref (He.ga K "Fault")) (.ref (He.ga K "Fault")) = some true := He.exm_ok (T.s.d.fact 126 rfl)
theorem Tx.a_Fault_rule (T : Tx K mg base) : NoAttr K (He.ga K "Fault") "rule" := He.noat_ok (T.s.d.fact 127 rfl)
theorem Tx.a_Fault_wall (T : Tx K mg base) : NoAttr K (He.ga K "Fault") "wall" := He.noat_ok (T.s.d.fact 128 rfl)
theorem Tx.e_Refused_Refused (T : Tx K mg base) : PySem.W.exmOne K (.ref (He.ga K "Refused")) (.ref (He.ga K "Refused")) = some true := He.exm_ok (T.s.d.fact 129 rfl)
theorem Tx.a_Refused_numbers (T : Tx K mg base) : NoAttr K (He.ga K "Refused") "numbers" := He.noat_ok (T.s.d.fact 130 rfl)
theorem Tx.e_Fault_Refused (T : Tx K mg base) : PySem.W.exmOne K (.ref (He.ga K "Fault")) (.ref (He.ga K "Refused")) = some false := He.exm_ok (T.s.d.fact 131 rfl)
theorem Tx.e_Refused_Fault (T : Tx K mg base) : PySem.W.exmOne K (.ref (He.ga K "Refused")) (.ref (He.ga K "Fault")) = some false := He.exm_ok (T.s.d.fact 132 rfl)
theorem Tx.f_book_fault (T : Tx K mg base) : ∃ fd, Fun K "book_fault" "book_fault" s_book_fault (He.ga K "book_fault") fd := (T.s.d.def_ 0 (d := d_book_fault) rfl).imp fun _ h => He5.fun_of h
theorem Tx.f_whole_root (T : Tx K mg base) : ∃ fd, Fun K "whole_root" "whole_root" s_whole_root (He.ga K "whole_root") fd := (T.s.d.def_ 1 (d := d_whole_root) rfl).imp fun _ h => He5.fun_of h
theorem Tx.f_nearest_root (T : Tx K mg base) : ∃ fd, Fun K "nearest_root" "nearest_root" s_nearest_root (He.ga K "nearest_root") fd := (T.s.d.def_ 2 (d := d_nearest_root) rfl).imp fun _ h => He5.fun_of h
theorem Tx.f_delay_of (T : Tx K mg base) : ∃ fd, Fun K "delay_of" "delay_of" s_delay_of (He.ga K "delay_of") fd := (T.s.d.def_ 3 (d := d_delay_of) rfl).imp fun _ h => He5.fun_of h
theorem Tx.f_gain_of (T : Tx K mg base) : ∃ fd, Fun K "gain_of" "gain_of" s_gain_of (He.ga K "gain_of") fd := (T.s.d.def_ 4 (d := d_gain_of) rfl).imp fun _ h => He5.fun_of h
theorem Tx.f_taps_of (T : Tx K mg base) : ∃ fd, Fun K "taps_of" "taps_of" s_taps_of (He.ga K "taps_of") fd := (T.s.d.def_ 5 (d := d_taps_of) rfl).imp fun _ h => He5.fun_of h
theorem Tx.f_held (T : Tx K mg base) : ∃ fd, Fun K "held" "held" s_held (He.ga K "held") fd := (T.s.d.def_ 6 (d := d_held) rfl).imp fun _ h => He5.fun_of h
theorem Tx.f_Line_init (T : Tx K mg base) : ∃ fd, Fun K "__init__" "Line.__init__" s_Line_init (He.ma K (He.ga K "Line") "__init__") fd := (T.s.d.def_ 7 (d := d_Line_init) rfl).imp fun _ h => He5.fun_of h
theorem Tx.f_Line_sample (T : Tx K mg base) : ∃ fd, Fun K "sample" "Line.sample" s_Line_sample (He.ma K (He.ga K "Line") "sample") fd := (T.s.d.def_ 8 (d := d_Line_sample) rfl).imp fun _ h => He5.fun_of h
theorem Tx.f_Line_out (T : Tx K mg base) : ∃ fd, Fun K "out" "Line.out" s_Line_out (He.ma K (He.ga K "Line") "out") fd := (T.s.d.def_ 9 (d := d_Line_out) rfl).imp fun _ h => He5.fun_of h
theorem Tx.f_Line_run (T : Tx K mg base) : ∃ fd, Fun K "run" "Line.run" s_Line_run (He.ma K (He.ga K "Line") "run") fd := (T.s.d.def_ 10 (d := d_Line_run) rfl).imp fun _ h => He5.fun_of h
theorem Tx.f_Line_past (T : Tx K mg base) : ∃ fd, Fun K "past" "Line.past" s_Line_past (He.ma K (He.ga K "Line") "past") fd := (T.s.d.def_ 11 (d := d_Line_past) rfl).imp fun _ h => He5.fun_of h
theorem Tx.f_Line_is_quiet (T : Tx K mg base) : ∃ fd, Fun K "is_quiet" "Line.is_quiet" s_Line_is_quiet (He.ma K (He.ga K "Line") "is_quiet") fd := (T.s.d.def_ 12 (d := d_Line_is_quiet) rfl).imp fun _ h => He5.fun_of h
theorem Tx.f_Fault_init (T : Tx K mg base) : ∃ fd, Fun K "__init__" "Fault.__init__" s_Fault_init (He.ma K (He.ga K "Fault") "__init__") fd := (T.s.d.def_ 13 (d := d_Fault_init) rfl).imp fun _ h => He5.fun_of h
theorem Tx.f_must_rooms (T : Tx K mg base) : ∃ fd, Fun K "must" "must" s_must_rooms (He.ga K "must_rooms") fd := (T.s.d.def_ 14 (d := d_must_rooms) rfl).imp fun _ h => He5.fun_of h
theorem Tx.f_sign (T : Tx K mg base) : ∃ fd, Fun K "sign" "sign" s_sign (He.ga K "sign") fd := (T.s.d.def_ 15 (d := d_sign) rfl).imp fun _ h => He5.fun_of h
theorem Tx.f_cross (T : Tx K mg base) : ∃ fd, Fun K "cross" "cross" s_cross (He.ga K "cross") fd := (T.s.d.def_ 16 (d := d_cross) rfl).imp fun _ h => He5.fun_of h
theorem Tx.f_Room_init (T : Tx K mg base) : ∃ fd, Fun K "__init__" "Room.__init__" s_Room_init (He.ma K (He.ga K "Room") "__init__") fd := (T.s.d.def_ 17 (d := d_Room_init) rfl).imp fun _ h => He5.fun_of h
theorem Tx.f_Room_many (T : Tx K mg base) : ∃ fd, Fun K "many" "Room.many" s_Room_many (He.ma K (He.ga K "Room") "many") fd := (T.s.d.def_ 18 (d := d_Room_many) rfl).imp fun _ h => He5.fun_of h
theorem Tx.f_Room_corner (T : Tx K mg base) : ∃ fd, Fun K "corner" "Room.corner" s_Room_corner (He.ma K (He.ga K "Room") "corner") fd := (T.s.d.def_ 19 (d := d_Room_corner) rfl).imp fun _ h => He5.fun_of h
theorem Tx.f_Room_direction (T : Tx K mg base) : ∃ fd, Fun K "direction" "Room.direction" s_Room_direction (He.ma K (He.ga K "Room") "direction") fd := (T.s.d.def_ 20 (d := d_Room_direction) rfl).imp fun _ h => He5.fun_of h
theorem Tx.f_Room_beside (T : Tx K mg base) : ∃ fd, Fun K "beside" "Room.beside" s_Room_beside (He.ma K (He.ga K "Room") "beside") fd := (T.s.d.def_ 21 (d := d_Room_beside) rfl).imp fun _ h => He5.fun_of h
theorem Tx.f_Room_side (T : Tx K mg base) : ∃ fd, Fun K "side" "Room.side" s_Room_side (He.ma K (He.ga K "Room") "side") fd := (T.s.d.def_ 22 (d := d_Room_side) rfl).imp fun _ h => He5.fun_of h
theorem Tx.f_Room_mirrored (T : Tx K mg base) : ∃ fd, Fun K "mirrored" "Room.mirrored" s_Room_mirrored (He.ma K (He.ga K "Room") "mirrored") fd := (T.s.d.def_ 23 (d := d_Room_mirrored) rfl).imp fun _ h => He5.fun_of h
theorem Tx.f_Room_along (T : Tx K mg base) : ∃ fd, Fun K "along" "Room.along" s_Room_along (He.ma K (He.ga K "Room") "along") fd := (T.s.d.def_ 24 (d := d_Room_along) rfl).imp fun _ h => He5.fun_of h
theorem Tx.f_Room_size (T : Tx K mg base) : ∃ fd, Fun K "size" "Room.size" s_Room_size (He.ma K (He.ga K "Room") "size") fd := (T.s.d.def_ 25 (d := d_Room_size) rfl).imp fun _ h => He5.fun_of h
theorem Tx.f_Room_is_on (T : Tx K mg base) : ∃ fd, Fun K "is_on" "Room.is_on" s_Room_is_on (He.ma K (He.ga K "Room") "is_on") fd := (T.s.d.def_ 26 (d := d_Room_is_on) rfl).imp fun _ h => He5.fun_of h
theorem Tx.f_Room_turns (T : Tx K mg base) : ∃ fd, Fun K "turns" "Room.turns" s_Room_turns (He.ma K (He.ga K "Room") "turns") fd := (T.s.d.def_ 27 (d := d_Room_turns) rfl).imp fun _ h => He5.fun_of h
theorem Tx.f_Room_is_within (T : Tx K mg base) : ∃ fd, Fun K "is_within" "Room.is_within" s_Room_is_within (He.ma K (He.ga K "Room") "is_within") fd := (T.s.d.def_ 28 (d := d_Room_is_within) rfl).imp fun _ h => He5.fun_of h
theorem Tx.f_Room_has_height (T : Tx K mg base) : ∃ fd, Fun K "has_height" "Room.has_height" s_Room_has_height (He.ma K (He.ga K "Room") "has_height") fd := (T.s.d.def_ 29 (d := d_Room_has_height) rfl).imp fun _ h => He5.fun_of h
theorem Tx.f_Room_is_inside (T : Tx K mg base) : ∃ fd, Fun K "is_inside" "Room.is_inside" s_Room_is_inside (He.ma K (He.ga K "Room") "is_inside") fd := (T.s.d.def_ 30 (d := d_Room_is_inside) rfl).imp fun _ h => He5.fun_of h
theorem Tx.f_Room_is_open (T : Tx K mg base) : ∃ fd, Fun K "is_open" "Room.is_open" s_Room_is_open (He.ma K (He.ga K "Room") "is_open") fd := (T.s.d.def_ 31 (d := d_Room_is_open) rfl).imp fun _ h => He5.fun_of h
theorem Tx.f_has_direction (T : Tx K mg base) : ∃ fd, Fun K "has_direction" "has_direction" s_has_direction (He.ga K "has_direction") fd := (T.s.d.def_ 32 (d := d_has_direction) rfl).imp fun _ h => He5.fun_of h
theorem Tx.f_meet (T : Tx K mg base) : ∃ fd, Fun K "meet" "meet" s_meet (He.ga K "meet") fd := (T.s.d.def_ 33 (d := d_meet) rfl).imp fun _ h => He5.fun_of h
theorem Tx.f_are_apart (T : Tx K mg base) : ∃ fd, Fun K "are_apart" "are_apart" s_are_apart (He.ga K "are_apart") fd := (T.s.d.def_ 34 (d := d_are_apart) rfl).imp fun _ h => He5.fun_of h
theorem Tx.f_area (T : Tx K mg base) : ∃ fd, Fun K "area" "area" s_area (He.ga K "area") fd := (T.s.d.def_ 35 (d := d_area) rfl).imp fun _ h => He5.fun_of h
theorem Tx.f_read_room (T : Tx K mg base) : ∃ fd, Fun K "read_room" "read_room" s_read_room (He.ga K "read_room") fd := (T.s.d.def_ 36 (d := d_read_room) rfl).imp fun _ h => He5.fun_of h
theorem Tx.f_common_divisor (T : Tx K mg base) : ∃ fd, Fun K "common_divisor" "common_divisor" s_common_divisor (He.ga K "common_divisor") fd := (T.s.d.def_ 37 (d := d_common_divisor) rfl).imp fun _ h => He5.fun_of h
theorem Tx.f_point_of (T : Tx K mg base) : ∃ fd, Fun K "point_of" "point_of" s_point_of (He.ga K "point_of") fd := (T.s.d.def_ 38 (d := d_point_of) rfl).imp fun _ h => He5.fun_of h
theorem Tx.f_between (T : Tx K mg base) : ∃ fd, Fun K "between" "between" s_between (He.ga K "between") fd := (T.s.d.def_ 39 (d := d_between) rfl).imp fun _ h => He5.fun_of h
theorem Tx.f_direction (T : Tx K mg base) : ∃ fd, Fun K "direction" "direction" s_direction (He.ga K "direction") fd := (T.s.d.def_ 40 (d := d_direction) rfl).imp fun _ h => He5.fun_of h
theorem Tx.f_from_corner (T : Tx K mg base) : ∃ fd, Fun K "from_corner" "from_corner" s_from_corner (He.ga K "from_corner") fd := (T.s.d.def_ 41 (d := d_from_corner) rfl).imp fun _ h => He5.fun_of h
theorem Tx.f_ahead (T : Tx K mg base) : ∃ fd, Fun K "ahead" "ahead" s_ahead (He.ga K "ahead") fd := (T.s.d.def_ 42 (d := d_ahead) rfl).imp fun _ h => He5.fun_of h
theorem Tx.f_is_blocked_along (T : Tx K mg base) : ∃ fd, Fun K "is_blocked_along" "is_blocked_along" s_is_blocked_along (He.ga K "is_blocked_along") fd := (T.s.d.def_ 43 (d := d_is_blocked_along) rfl).imp fun _ h => He5.fun_of h
theorem Tx.f_is_blocked (T : Tx K mg base) : ∃ fd, Fun K "is_blocked" "is_blocked" s_is_blocked (He.ga K "is_blocked") fd := (T.s.d.def_ 44 (d := d_is_blocked) rfl).imp fun _ h => He5.fun_of h
theorem Tx.f_is_clear (T : Tx K mg base) : ∃ fd, Fun K "is_clear" "is_clear" s_is_clear (He.ga K "is_clear") fd := (T.s.d.def_ 45 (d := d_is_clear) rfl).imp fun _ h => He5.fun_of h
theorem Tx.f_met (T : Tx K mg base) : ∃ fd, Fun K "met" "met" s_met (He.ga K "met") fd := (T.s.d.def_ 46 (d := d_met) rfl).imp fun _ h => He5.fun_of h
theorem Tx.f_Path_init (T : Tx K mg base) : ∃ fd, Fun K "__init__" "Path.__init__" s_Path_init (He.ma K (He.ga K "Path") "__init__") fd := (T.s.d.def_ 47 (d := d_Path_init) rfl).imp fun _ h => He5.fun_of h
theorem Tx.f_is_path (T : Tx K mg base) : ∃ fd, Fun K "is_path" "is_path" s_is_path (He.ga K "is_path") fd := (T.s.d.def_ 48 (d := d_is_path) rfl).imp fun _ h => He5.fun_of h
theorem Tx.f_square_between (T : Tx K mg base) : ∃ fd, Fun K "square_between" "square_between" s_square_between (He.ga K "square_between") fd := (T.s.d.def_ 49 (d := d_square_between) rfl).imp fun _ h => He5.fun_of h
theorem Tx.f_longer (T : Tx K mg base) : ∃ fd, Fun K "longer" "longer" s_longer (He.ga K "longer") fd := (T.s.d.def_ 50 (d := d_longer) rfl).imp fun _ h => He5.fun_of h
theorem Tx.f_paths (T : Tx K mg base) : ∃ fd, Fun K "paths" "paths" s_paths (He.ga K "paths") fd := (T.s.d.def_ 51 (d := d_paths) rfl).imp fun _ h => He5.fun_of h
theorem Tx.f_Refused_init (T : Tx K mg base) : ∃ fd, Fun K "__init__" "Refused.__init__" s_Refused_init (He.ma K (He.ga K "Refused") "__init__") fd := (T.s.d.def_ 52 (d := d_Refused_init) rfl).imp fun _ h => He5.fun_of h
theorem Tx.f_must_taps (T : Tx K mg base) : ∃ fd, Fun K "must" "must" s_must_taps (He.ga K "must_taps") fd := (T.s.d.def_ 53 (d := d_must_taps) rfl).imp fun _ h => He5.fun_of h
theorem Tx.f_is_rate (T : Tx K mg base) : ∃ fd, Fun K "is_rate" "is_rate" s_is_rate (He.ga K "is_rate") fd := (T.s.d.def_ 54 (d := d_is_rate) rfl).imp fun _ h => He5.fun_of h
theorem Tx.f_delay (T : Tx K mg base) : ∃ fd, Fun K "delay" "delay" s_delay (He.ga K "delay") fd := (T.s.d.def_ 55 (d := d_delay) rfl).imp fun _ h => He5.fun_of h
theorem Tx.f_room_in (T : Tx K mg base) : ∃ fd, Fun K "room_in" "room_in" s_room_in (He.ga K "room_in") fd := (T.s.d.def_ 56 (d := d_room_in) rfl).imp fun _ h => He5.fun_of h
theorem Tx.f_flat (T : Tx K mg base) : ∃ fd, Fun K "flat" "flat" s_flat (He.ga K "flat") fd := (T.s.d.def_ 57 (d := d_flat) rfl).imp fun _ h => He5.fun_of h
theorem Tx.f_taps (T : Tx K mg base) : ∃ fd, Fun K "taps" "taps" s_taps (He.ga K "taps") fd := (T.s.d.def_ 58 (d := d_taps) rfl).imp fun _ h => He5.fun_of h
theorem Tx.f_read_taps (T : Tx K mg base) : ∃ fd, Fun K "read_taps" "read_taps" s_read_taps (He.ga K "read_taps") fd := (T.s.d.def_ 59 (d := d_read_taps) rfl).imp fun _ h => He5.fun_of h
theorem Tx.f_Desk_init (T : Tx K mg base) : ∃ fd, Fun K "__init__" "Desk.__init__" s_Desk_init (He.ma K (He.ga K "Desk") "__init__") fd := (T.s.d.def_ 60 (d := d_Desk_init) rfl).imp fun _ h => He5.fun_of h
theorem Tx.f_Desk_begin (T : Tx K mg base) : ∃ fd, Fun K "begin" "Desk.begin" s_Desk_begin (He.ma K (He.ga K "Desk") "begin") fd := (T.s.d.def_ 61 (d := d_Desk_begin) rfl).imp fun _ h => He5.fun_of h
theorem Tx.f_Desk_put (T : Tx K mg base) : ∃ fd, Fun K "put" "Desk.put" s_Desk_put (He.ma K (He.ga K "Desk") "put") fd := (T.s.d.def_ 62 (d := d_Desk_put) rfl).imp fun _ h => He5.fun_of h
theorem Tx.f_Desk_run (T : Tx K mg base) : ∃ fd, Fun K "run" "Desk.run" s_Desk_run (He.ma K (He.ga K "Desk") "run") fd := (T.s.d.def_ 63 (d := d_Desk_run) rfl).imp fun _ h => He5.fun_of h
theorem Tx.f_Desk_past (T : Tx K mg base) : ∃ fd, Fun K "past" "Desk.past" s_Desk_past (He.ma K (He.ga K "Desk") "past") fd := (T.s.d.def_ 64 (d := d_Desk_past) rfl).imp fun _ h => He5.fun_of h
theorem Tx.f_Desk_answered (T : Tx K mg base) : ∃ fd, Fun K "answered" "Desk.answered" s_Desk_answered (He.ma K (He.ga K "Desk") "answered") fd := (T.s.d.def_ 65 (d := d_Desk_answered) rfl).imp fun _ h => He5.fun_of h
theorem Tx.f_Desk_called (T : Tx K mg base) : ∃ fd, Fun K "called" "Desk.called" s_Desk_called (He.ma K (He.ga K "Desk") "called") fd := (T.s.d.def_ 66 (d := d_Desk_called) rfl).imp fun _ h => He5.fun_of h
theorem Tx.f_call_at (T : Tx K mg base) : ∃ fd, Fun K "call_at" "call_at" s_call_at (He.ga K "call_at") fd := (T.s.d.def_ 67 (d := d_call_at) rfl).imp fun _ h => He5.fun_of h
theorem Tx.f_answers (T : Tx K mg base) : ∃ fd, Fun K "answers" "answers" s_answers (He.ga K "answers") fd := (T.s.d.def_ 68 (d := d_answers) rfl).imp fun _ h => He5.fun_of h
/-! ### the classes of errors, the tables -/
theorem refsVE_of {bm : List Value} (h : vE bm = true) : PySem.HandSPX.refsVE bm = true := by
  have e : bm = [.type "ValueError", .type "Exception", .type "BaseException", .type "object"] := of_decide_eq_true h
  rw [e]
  decide +kernel
theorem oexB_ok {C : Addr} (h : oexB K C = true) : OexC K C := by
  unfold oexB at h
  obtain ⟨h1, h⟩ := He.ba h
  obtain ⟨h2, h⟩ := He.ba h
  obtain ⟨h3, h⟩ := He.ba h
  obtain ⟨h4, h5⟩ := He.ba h
  refine ⟨?_, of_decide_eq_true h2, of_decide_eq_true h3, of_decide_eq_true h4, h5⟩
  split at h1
  · rename_i dd cd sl lk
    split at h1
    · rename_i C' bm k0 k1 k2 k3 n k5 hm hs
      obtain ⟨q1, h1⟩ := He.ba h1
      obtain ⟨q2, h1⟩ := He.ba h1
      obtain ⟨q3, h1⟩ := He.ba h1
      obtain ⟨q4, q5⟩ := He.ba h1
      have e1 : C' = C := of_decide_eq_true q1
      have e2 : n = "ValueError.__new__" := of_decide_eq_true q2
      subst e1 e2
      obtain ⟨nm, bs, mro, ns, qn, hd, sn, sub, ab, col, del⟩ := cd
      dsimp only at hm q4 q5
      subst hm
      subst q4
      have e5 : del = false := by
        cases del with
        | true => cases q5
        | false => rfl
      subst e5
      have hsl : sl = #[k0, k1, k2, k3, some (.builtin "ValueError.__new__"), k5] := by
        obtain ⟨l⟩ := sl
        simp only at hs
        rw [hs]
      subst hsl
      exact ⟨nm, qn, ns, bs, bm, sn, sub, ab, col, dd, k0, k1, k2, k3, k5, lk, refsVE_of q3⟩
    · cases h1
  · cases h1
theorem Tx.ex (T : Tx K mg base) : (oexB K (He.ga K "Fault") = true ∧ oexB K (He.ga K "Refused") = true) ∧ (iniB K (He.ga K "Fault") = true ∧ iniB K (He.ga K "Refused") = true) ∧ (xfB K (He.ga K "Fault") = true ∧ xfB K (He.ga K "Refused") = true) ∧ He.tupB K "NUMBERS" tabN = true ∧ He.tupB K "LISTS" tabL = true := by
  obtain ⟨h1, h⟩ := He.ba T.s.x
  obtain ⟨h2, h⟩ := He.ba h
  obtain ⟨h3, h⟩ := He.ba h
  obtain ⟨h4, h⟩ := He.ba h
  obtain ⟨h5, h⟩ := He.ba h
  obtain ⟨h6, h⟩ := He.ba h
  obtain ⟨h7, h8⟩ := He.ba h
  exact ⟨⟨h1, h2⟩, ⟨h3, h4⟩, ⟨h5, h6⟩, h7, h8⟩
theorem Tx.oF (T : Tx K mg base) : OexC K (He.ga K "Fault") := oexB_ok T.ex.1.1
theorem Tx.oR (T : Tx K mg base) : OexC K (He.ga K "Refused") := oexB_ok T.ex.1.2
theorem iniB_ok {C : Addr} (h : iniB K C = true) : PySem.W.findIn K (.ref C) "__init__" = some (some (.ref (He.ma K C "__init__"))) ∧ PySem.W.typeIn K (.ref (He.ma K C "__init__")) = some (.type "function") := by
  obtain ⟨h1, h2⟩ := He.ba h
  exact ⟨of_decide_eq_true h1, of_decide_eq_true h2⟩
theorem Tx.iF (T : Tx K mg base) : PySem.W.findIn K (.ref (He.ga K "Fault")) "__init__" = some (some (.ref (He.ma K (He.ga K "Fault") "__init__"))) ∧ PySem.W.typeIn K (.ref (He.ma K (He.ga K "Fault") "__init__")) = some (.type "function") := iniB_ok T.ex.2.1.1
theorem Tx.iR (T : Tx K mg base) : PySem.W.findIn K (.ref (He.ga K "Refused")) "__init__" = some (some (.ref (He.ma K (He.ga K "Refused") "__init__"))) ∧ PySem.W.typeIn K (.ref (He.ma K (He.ga K "Refused") "__init__")) = some (.type "function") := iniB_ok T.ex.2.1.2
theorem Tx.xF (T : Tx K mg base) : XfC K (He.ga K "Fault") := xfB_ok T.ex.2.2.1.1
theorem Tx.xR (T : Tx K mg base) : XfC K (He.ga K "Refused") := xfB_ok T.ex.2.2.1.2
theorem Tx.tN (T : Tx K mg base) (H : Hp) : SqT K H (He.ga K "NUMBERS") [.int 0, .int 3, .int 10, .int 0, .int 0, .int 0, .int 0, .int 0, .int 1, .int 0, .int 0] := He.tupB_ok T.ex.2.2.2.1 H
theorem Tx.tL (T : Tx K mg base) (H : Hp) : SqT K H (He.ga K "LISTS") [.int 0, .int 0, .int 2, .int 1, .int 0, .int 1, .int 0, .int 1, .int 0, .int 0, .int 0] := He.tupB_ok T.ex.2.2.2.2 H
theorem sc_book_fault : FnScope ["book", "at", "number"] ["book"] (defScope s_book_fault) := ⟨rfl, rfl, rfl, by decide +kernel, rfl, by decide +kernel, by decide +kernel⟩
theorem sc_whole_root : FnScope ["number", "root", "better"] ["number"] (defScope s_whole_root) := ⟨rfl, rfl, rfl, by decide +kernel, rfl, by decide +kernel, by decide +kernel⟩
theorem sc_nearest_root : FnScope ["top", "bottom"] ["top", "bottom"] (defScope s_nearest_root) := ⟨rfl, rfl, rfl, by decide +kernel, rfl, by decide +kernel, by decide +kernel⟩
theorem sc_delay_of : FnScope ["square", "rate", "speed"] ["square", "rate", "speed"] (defScope s_delay_of) := ⟨rfl, rfl, rfl, by decide +kernel, rfl, by decide +kernel, by decide +kernel⟩
theorem sc_gain_of : FnScope ["room", "book", "band", "path", "square", "stretches", "top", "wall", "k", "bits"] ["room", "book", "band", "path"] (defScope s_gain_of) := ⟨rfl, rfl, rfl, by decide +kernel, rfl, by decide +kernel, by decide +kernel⟩
theorem sc_taps_of : FnScope ["room", "book", "band", "pairs", "gains", "path", "delay"] ["room", "book", "band", "pairs"] (defScope s_taps_of) := ⟨rfl, rfl, rfl, by decide +kernel, rfl, by decide +kernel, by decide +kernel⟩
theorem sc_held : FnScope ["number"] ["number"] (defScope s_held) := ⟨rfl, rfl, rfl, by decide +kernel, rfl, by decide +kernel, by decide +kernel⟩
theorem sc_Line_init : FnScope ["self"] ["self"] (defScope s_Line_init) := ⟨rfl, rfl, rfl, by decide +kernel, rfl, by decide +kernel, by decide +kernel⟩
theorem sc_Line_sample : FnScope ["self", "n"] ["self", "n"] (defScope s_Line_sample) := ⟨rfl, rfl, rfl, by decide +kernel, rfl, by decide +kernel, by decide +kernel⟩
theorem sc_Line_out : FnScope ["self", "n", "total", "delay", "gain"] ["self", "n"] (defScope s_Line_out) := ⟨rfl, rfl, rfl, by decide +kernel, rfl, by decide +kernel, by decide +kernel⟩
theorem sc_Line_run : FnScope ["self", "samples", "many", "told", "sample", "found"] ["self", "samples"] (defScope s_Line_run) := ⟨rfl, rfl, rfl, by decide +kernel, rfl, by decide +kernel, by decide +kernel⟩
theorem sc_Line_past : FnScope ["self", "back"] ["self", "back"] (defScope s_Line_past) := ⟨rfl, rfl, rfl, by decide +kernel, rfl, by decide +kernel, by decide +kernel⟩
theorem sc_Line_is_quiet : FnScope ["self", "now", "places", "delay", "gain", "at", "n"] ["self"] (defScope s_Line_is_quiet) := ⟨rfl, rfl, rfl, by decide +kernel, rfl, by decide +kernel, by decide +kernel⟩
theorem sc_Fault_init : FnScope ["self", "rule", "wall"] ["self", "rule", "wall"] (defScope s_Fault_init) := ⟨rfl, rfl, rfl, by decide +kernel, rfl, by decide +kernel, by decide +kernel⟩
theorem sc_must_rooms : FnScope ["so", "rule", "wall"] ["so", "rule", "wall"] (defScope s_must_rooms) := ⟨rfl, rfl, rfl, by decide +kernel, rfl, by decide +kernel, by decide +kernel⟩
theorem sc_sign : FnScope ["number"] ["number"] (defScope s_sign) := ⟨rfl, rfl, rfl, by decide +kernel, rfl, by decide +kernel, by decide +kernel⟩
theorem sc_cross : FnScope ["one", "other"] ["one", "other"] (defScope s_cross) := ⟨rfl, rfl, rfl, by decide +kernel, rfl, by decide +kernel, by decide +kernel⟩
theorem sc_Room_init : FnScope ["self", "told", "at"] ["self", "told"] (defScope s_Room_init) := ⟨rfl, rfl, rfl, by decide +kernel, rfl, by decide +kernel, by decide +kernel⟩
theorem sc_Room_many : FnScope ["self"] ["self"] (defScope s_Room_many) := ⟨rfl, rfl, rfl, by decide +kernel, rfl, by decide +kernel, by decide +kernel⟩
theorem sc_Room_corner : FnScope ["self", "i"] ["self", "i"] (defScope s_Room_corner) := ⟨rfl, rfl, rfl, by decide +kernel, rfl, by decide +kernel, by decide +kernel⟩
theorem sc_Room_direction : FnScope ["self", "i", "x", "y", "far_x", "far_y"] ["self", "i"] (defScope s_Room_direction) := ⟨rfl, rfl, rfl, by decide +kernel, rfl, by decide +kernel, by decide +kernel⟩
theorem sc_Room_beside : FnScope ["self", "i", "point", "x", "y"] ["self", "i", "point"] (defScope s_Room_beside) := ⟨rfl, rfl, rfl, by decide +kernel, rfl, by decide +kernel, by decide +kernel⟩
theorem sc_Room_side : FnScope ["self", "wall", "point"] ["self", "wall", "point"] (defScope s_Room_side) := ⟨rfl, rfl, rfl, by decide +kernel, rfl, by decide +kernel, by decide +kernel⟩
theorem sc_Room_mirrored : FnScope ["self", "wall", "point", "x", "y", "z", "weight", "across", "far", "size"] ["self", "wall", "point"] (defScope s_Room_mirrored) := ⟨rfl, rfl, rfl, by decide +kernel, rfl, by decide +kernel, by decide +kernel⟩
theorem sc_Room_along : FnScope ["self", "i", "point", "x", "y", "dx", "dy"] ["self", "i", "point"] (defScope s_Room_along) := ⟨rfl, rfl, rfl, by decide +kernel, rfl, by decide +kernel, by decide +kernel⟩
theorem sc_Room_size : FnScope ["self", "i", "dx", "dy"] ["self", "i"] (defScope s_Room_size) := ⟨rfl, rfl, rfl, by decide +kernel, rfl, by decide +kernel, by decide +kernel⟩
theorem sc_Room_is_on : FnScope ["self", "i", "point", "far"] ["self", "i", "point"] (defScope s_Room_is_on) := ⟨rfl, rfl, rfl, by decide +kernel, rfl, by decide +kernel, by decide +kernel⟩
theorem sc_Room_turns : FnScope ["self", "i", "point", "low", "high"] ["self", "i", "point"] (defScope s_Room_turns) := ⟨rfl, rfl, rfl, by decide +kernel, rfl, by decide +kernel, by decide +kernel⟩
theorem sc_Room_is_within : FnScope ["self", "point", "lines", "i"] ["self", "point"] (defScope s_Room_is_within) := ⟨rfl, rfl, rfl, by decide +kernel, rfl, by decide +kernel, by decide +kernel⟩
theorem sc_Room_has_height : FnScope ["self", "point"] ["self", "point"] (defScope s_Room_has_height) := ⟨rfl, rfl, rfl, by decide +kernel, rfl, by decide +kernel, by decide +kernel⟩
theorem sc_Room_is_inside : FnScope ["self", "point"] ["self", "point"] (defScope s_Room_is_inside) := ⟨rfl, rfl, rfl, by decide +kernel, rfl, by decide +kernel, by decide +kernel⟩
theorem sc_Room_is_open : FnScope ["self", "wall", "point", "far"] ["self", "wall", "point"] (defScope s_Room_is_open) := ⟨rfl, rfl, rfl, by decide +kernel, rfl, by decide +kernel, by decide +kernel⟩
theorem sc_has_direction : FnScope ["direction", "dx", "dy"] ["direction"] (defScope s_has_direction) := ⟨rfl, rfl, rfl, by decide +kernel, rfl, by decide +kernel, by decide +kernel⟩
theorem sc_meet : FnScope ["room", "i", "j", "ends", "one", "other", "end"] ["room", "i", "j"] (defScope s_meet) := ⟨rfl, rfl, rfl, by decide +kernel, rfl, by decide +kernel, by decide +kernel⟩
theorem sc_are_apart : FnScope ["room", "i", "j", "many"] ["room", "i", "j"] (defScope s_are_apart) := ⟨rfl, rfl, rfl, by decide +kernel, rfl, by decide +kernel, by decide +kernel⟩
theorem sc_area : FnScope ["room", "i"] ["room"] (defScope s_area) := ⟨rfl, rfl, rfl, by decide +kernel, rfl, by decide +kernel, by decide +kernel⟩
theorem sc_read_room : FnScope ["told", "many", "stuffs", "i", "x", "y", "stuff", "room", "j"] ["told"] (defScope s_read_room) := ⟨rfl, rfl, rfl, by decide +kernel, rfl, by decide +kernel, by decide +kernel⟩
theorem sc_common_divisor : FnScope ["one", "other"] ["one", "other"] (defScope s_common_divisor) := ⟨rfl, rfl, rfl, by decide +kernel, rfl, by decide +kernel, by decide +kernel⟩
theorem sc_point_of : FnScope ["x", "y", "z", "weight", "by"] ["x", "y", "z", "weight"] (defScope s_point_of) := ⟨rfl, rfl, rfl, by decide +kernel, rfl, by decide +kernel, by decide +kernel⟩
theorem sc_between : FnScope ["one", "other", "x", "y", "z", "k"] ["one", "other"] (defScope s_between) := ⟨rfl, rfl, rfl, by decide +kernel, rfl, by decide +kernel, by decide +kernel⟩
theorem sc_direction : FnScope ["one", "other"] ["one", "other"] (defScope s_direction) := ⟨rfl, rfl, rfl, by decide +kernel, rfl, by decide +kernel, by decide +kernel⟩
theorem sc_from_corner : FnScope ["one", "corner"] ["one", "corner"] (defScope s_from_corner) := ⟨rfl, rfl, rfl, by decide +kernel, rfl, by decide +kernel, by decide +kernel⟩
theorem sc_ahead : FnScope ["way", "off"] ["way", "off"] (defScope s_ahead) := ⟨rfl, rfl, rfl, by decide +kernel, rfl, by decide +kernel, by decide +kernel⟩
theorem sc_is_blocked_along : FnScope ["room", "i", "one", "other", "way", "ends"] ["room", "i", "one", "other"] (defScope s_is_blocked_along) := ⟨rfl, rfl, rfl, by decide +kernel, rfl, by decide +kernel, by decide +kernel⟩
theorem sc_is_blocked : FnScope ["room", "i", "one", "other", "first", "second", "way", "left", "right"] ["room", "i", "one", "other"] (defScope s_is_blocked) := ⟨rfl, rfl, rfl, by decide +kernel, rfl, by decide +kernel, by decide +kernel⟩
theorem sc_is_clear : FnScope ["room", "one", "other", "middle", "i"] ["room", "one", "other"] (defScope s_is_clear) := ⟨rfl, rfl, rfl, by decide +kernel, rfl, by decide +kernel, by decide +kernel⟩
theorem sc_met : FnScope ["room", "wall", "point", "image", "near", "far", "x", "y", "z", "k"] ["room", "wall", "point", "image"] (defScope s_met) := ⟨rfl, rfl, rfl, by decide +kernel, rfl, by decide +kernel, by decide +kernel⟩
theorem sc_Path_init : FnScope ["self", "square", "walls"] ["self", "square", "walls"] (defScope s_Path_init) := ⟨rfl, rfl, rfl, by decide +kernel, rfl, by decide +kernel, by decide +kernel⟩
theorem sc_is_path : FnScope ["room", "start", "walls", "images", "end", "point", "wall", "image", "turn"] ["room", "start", "walls", "images", "end"] (defScope s_is_path) := ⟨rfl, rfl, rfl, by decide +kernel, rfl, by decide +kernel, by decide +kernel⟩
theorem sc_square_between : FnScope ["one", "other", "k"] ["one", "other"] (defScope s_square_between) := ⟨rfl, rfl, rfl, by decide +kernel, rfl, by decide +kernel, by decide +kernel⟩
theorem sc_longer : FnScope ["room", "start", "walls", "images", "last", "found", "wall"] ["room", "start", "walls", "images"] (defScope s_longer) := ⟨rfl, rfl, rfl, by decide +kernel, rfl, by decide +kernel, by decide +kernel⟩
theorem sc_paths : FnScope ["room", "start", "end", "most", "found", "rows", "turns", "following", "walls", "images"] ["room", "start", "end", "most"] (defScope s_paths) := ⟨rfl, rfl, rfl, by decide +kernel, rfl, by decide +kernel, by decide +kernel⟩
theorem sc_Refused_init : FnScope ["self", "numbers"] ["self", "numbers"] (defScope s_Refused_init) := ⟨rfl, rfl, rfl, by decide +kernel, rfl, by decide +kernel, by decide +kernel⟩
theorem sc_must_taps : FnScope ["so", "numbers"] ["so", "numbers"] (defScope s_must_taps) := ⟨rfl, rfl, rfl, by decide +kernel, rfl, by decide +kernel, by decide +kernel⟩
theorem sc_is_rate : FnScope ["rate", "speed"] ["rate", "speed"] (defScope s_is_rate) := ⟨rfl, rfl, rfl, by decide +kernel, rfl, by decide +kernel, by decide +kernel⟩
theorem sc_delay : FnScope ["numbers", "square", "rate", "speed", "found"] ["numbers"] (defScope s_delay) := ⟨rfl, rfl, rfl, by decide +kernel, rfl, by decide +kernel, by decide +kernel⟩
theorem sc_room_in : FnScope ["told", "found", "fault"] ["told"] (defScope s_room_in) := ⟨rfl, rfl, rfl, by decide +kernel, rfl, by decide +kernel, by decide +kernel⟩
theorem sc_flat : FnScope ["taps", "found", "far", "gain"] ["taps"] (defScope s_flat) := ⟨rfl, rfl, rfl, by decide +kernel, rfl, by decide +kernel, by decide +kernel⟩
theorem sc_taps : FnScope ["numbers", "rows", "most", "band", "rate", "speed", "room", "fault", "start", "end", "pairs", "found", "path", "far"] ["numbers", "rows"] (defScope s_taps) := ⟨rfl, rfl, rfl, by decide +kernel, rfl, by decide +kernel, by decide +kernel⟩
theorem sc_read_taps : FnScope ["row", "last", "found", "at", "far", "gain", "right"] ["row"] (defScope s_read_taps) := ⟨rfl, rfl, rfl, by decide +kernel, rfl, by decide +kernel, by decide +kernel⟩
theorem sc_Desk_init : FnScope ["self"] ["self"] (defScope s_Desk_init) := ⟨rfl, rfl, rfl, by decide +kernel, rfl, by decide +kernel, by decide +kernel⟩
theorem sc_Desk_begin : FnScope ["self"] ["self"] (defScope s_Desk_begin) := ⟨rfl, rfl, rfl, by decide +kernel, rfl, by decide +kernel, by decide +kernel⟩
theorem sc_Desk_put : FnScope ["self", "row"] ["self", "row"] (defScope s_Desk_put) := ⟨rfl, rfl, rfl, by decide +kernel, rfl, by decide +kernel, by decide +kernel⟩
theorem sc_Desk_run : FnScope ["self", "row", "sample"] ["self", "row"] (defScope s_Desk_run) := ⟨rfl, rfl, rfl, by decide +kernel, rfl, by decide +kernel, by decide +kernel⟩
theorem sc_Desk_past : FnScope ["self", "back"] ["self", "back"] (defScope s_Desk_past) := ⟨rfl, rfl, rfl, by decide +kernel, rfl, by decide +kernel, by decide +kernel⟩
theorem sc_Desk_answered : FnScope ["self", "place", "numbers", "rows"] ["self", "place", "numbers", "rows"] (defScope s_Desk_answered) := ⟨rfl, rfl, rfl, by decide +kernel, rfl, by decide +kernel, by decide +kernel⟩
theorem sc_Desk_called : FnScope ["self", "place", "numbers", "rows", "answer", "refused"] ["self", "place", "numbers", "rows"] (defScope s_Desk_called) := ⟨rfl, rfl, rfl, by decide +kernel, rfl, by decide +kernel, by decide +kernel⟩
theorem sc_call_at : FnScope ["calls", "at", "place", "end", "numbers", "rows", "k"] ["calls", "at"] (defScope s_call_at) := ⟨rfl, rfl, rfl, by decide +kernel, rfl, by decide +kernel, by decide +kernel⟩
theorem sc_answers : FnScope ["calls", "desk", "told", "at", "place", "numbers", "rows", "end", "answer"] ["calls"] (defScope s_answers) := ⟨rfl, rfl, rfl, by decide +kernel, rfl, by decide +kernel, by decide +kernel⟩
end
end Rt
set_option Elab.async false
set_option linter.all false
set_option maxRecDepth 100000
set_option maxHeartbeats 4000000
namespace Rt
open PySem PySem.Spec PyProof.Rows L2
open C8 (Cal Met Mak pe_c pe_mk pe_mt pe_mt0 pe_gc)
section
variable {P : Program} {w : World} {K : PySem.W.Frag} {mg : Str → Option Value} {base : Heap}
/-! ### a def's promise, packed -/
theorem mkC {x nm : Str} {st : Stmt} {N ps : List Str} {k : Nat} {sp : Sp} (F : ∃ fd, Fun K nm nm st (He.ga K x) fd) (g : mg x = some (.ref (He.ga K x))) (S : FnScope N ps (defScope st))
    (hb : ∀ (kV doc pm : Value) (an : Option Addr) (cdv ct : Value) (us : List Value), us.length = ps.length → bindArgs (PySem.W.fnOf nm nm (defArgs st) (defBody st) (defScope st) .none kV doc pm an cdv ct) ⟨us, []⟩ = pure (ps.zip us))
    (len : ∀ vs H Q E, sp vs H Q E → vs.length = ps.length)
    (hbody : ∀ (f : Addr) (cdv : Value) (A : Around) (outer : List Env) (s : Shared) (H : Hp) (vs : List V) (Q : VK) (E : XK), L2.Room k (A.deeper (envOfC nm (defScope st) s.heap.objs.size f cdv)) → sp vs H Q E →
      ∃ t, PSs (cxOf CX0 P w K mg base N nm (defScope st) f cdv A outer s H E).nox (defBody st) t ∧ t { nx := fun _ H' => Q .non H', rt := Q } (start N vs) H) : Cal P w K mg base (k + 1) x sp [] := by
  obtain ⟨fd, F⟩ := F
  exact ⟨He.ga K x, fd, ps, [], F.ok S len (hbody _), g, F.kp, F.binds hb, .nil⟩
theorem mkM {c m q : Str} {st : Stmt} {N ps : List Str} {k : Nat} {sp : Sp} (F : ∃ fd, Fun K m q st (He.ma K (He.ga K c) m) fd) (kc : Cls K (He.ga K c)) (me : Meth K (He.ga K c) m (He.ma K (He.ga K c) m)) (S : FnScope N ps (defScope st))
    (hb : ∀ (kV doc pm : Value) (an : Option Addr) (cdv ct : Value) (us : List Value), us.length = ps.length → bindArgs (PySem.W.fnOf m q (defArgs st) (defBody st) (defScope st) .none kV doc pm an cdv ct) ⟨us, []⟩ = pure (ps.zip us))
    (len : ∀ vs H Q E, sp vs H Q E → vs.length = ps.length)
    (hbody : ∀ (f : Addr) (cdv : Value) (A : Around) (outer : List Env) (s : Shared) (H : Hp) (vs : List V) (Q : VK) (E : XK), L2.Room k (A.deeper (envOfC q (defScope st) s.heap.objs.size f cdv)) → sp vs H Q E →
      ∃ t, PSs (cxOf CX0 P w K mg base N q (defScope st) f cdv A outer s H E).nox (defBody st) t ∧ t { nx := fun _ H' => Q .non H', rt := Q } (start N vs) H) : Met P w K mg base (k + 1) (He.ga K c) m sp [] := by
  obtain ⟨fd, F⟩ := F
  exact ⟨He.ma K (He.ga K c) m, fd, ps, [], kc, me, F.ok S len (hbody _), F.binds hb, .nil⟩
theorem mkK {c q : Str} {st : Stmt} {N ps : List Str} {k : Nat} {sp : Sp} (F : ∃ fd, Fun K "__init__" q st (He.ma K (He.ga K c) "__init__") fd) (M : Mk K (He.ga K c) (He.ma K (He.ga K c) "__init__")) (g : mg c = some (.ref (He.ga K c))) (S : FnScope N ps (defScope st))
    (hb : ∀ (kV doc pm : Value) (an : Option Addr) (cdv ct : Value) (us : List Value), us.length = ps.length → bindArgs (PySem.W.fnOf "__init__" q (defArgs st) (defBody st) (defScope st) .none kV doc pm an cdv ct) ⟨us, []⟩ = pure (ps.zip us))
    (len : ∀ vs H Q E, sp vs H Q E → vs.length = ps.length)
    (hbody : ∀ (f : Addr) (cdv : Value) (A : Around) (outer : List Env) (s : Shared) (H : Hp) (vs : List V) (Q : VK) (E : XK), L2.Room k (A.deeper (envOfC q (defScope st) s.heap.objs.size f cdv)) → sp vs H Q E →
      ∃ t, PSs (cxOf CX0 P w K mg base N q (defScope st) f cdv A outer s H E).nox (defBody st) t ∧ t { nx := fun _ H' => Q .non H', rt := Q } (start N vs) H) : Mak P w K mg base (k + 1) c (He.ga K c) sp [] := by
  obtain ⟨fd, F⟩ := F
  exact ⟨He.ma K (He.ga K c) "__init__", fd, ps, [], M, F.ok S len (hbody _), g, F.binds hb, .nil⟩
end
section
variable {X : Cx} {k j : Nat} {x m : Str} {C : Addr} {sp : Sp} {dvs : List V} {p pos apos : Pos} {e o : Expr} {es : List Expr} {ta : TE} {t : TA}
/-- C() -/
theorem pe_mk0 (c : Mak X.prog X.w X.K X.mg X.base k x C sp dvs) (hr : L2.Room j X.A) (hk : k + 1 ≤ j) (hg : Gl X x)
    (hdb : (x == ("__debug__" : Str)) = false := by decide) : PE X (.Call (.Name x p) [] [] pos) (tMake C sp dvs E0 tNil) := by
  obtain ⟨f, fd, ps, ds, M, F, hm, b, d⟩ := c.ex
  exact pe_make0 M F (hr.mono hk) hg hm b d pass0 hdb
end
/-! ### readings, step by step -/
section
variable {σ : L2.St} {H : Hp} {D : Ends} {Q : VK} {v x y : V} {i : Nat} {ta tb te : TE} {t u : TS} {tc : TT} {K : PySem.W.Frag}
theorem r_seq (h : t { D with nx := u D } σ H) : tSeq t u D σ H := h
theorem r_ret (h : te σ H D.rt) : tRet te D σ H := h
theorem r_asg {g : TG} (h : te σ H fun x H1 => g x σ H1 D.nx) : tAsg te g D σ H := h
theorem r_drop (h : te σ H fun _ H1 => D.nx σ H1) : tDrop te D σ H := h
theorem r_name {Q : L2.St → Hp → Prop} (h : Q (σ.set i (some v)) H) : gName i v σ H Q := h
theorem r_next (h : D.nx σ H) : tNext D σ H := h
theorem r_if (h : tc σ H fun b H1 => if b = true then t D σ H1 else u D σ H1) : tIfS tc t u D σ H := h
theorem r_op {r : R2} (h : ta σ H fun x H1 => tb σ H1 fun y H2 => r x y H2 Q) : tOp r ta tb σ H Q := h
theorem r_un {r : V → Hp → VK → Prop} (h : ta σ H fun x H1 => r x H1 Q) : tUn r ta σ H Q := h
theorem r_var (e : σ[i]? = some (some v)) (h : Q v H) : tVar i σ H Q := ⟨v, e, h⟩
theorem r_c (h : Q v H) : tC v σ H Q := h
theorem r_nil {Q : List V → Hp → Prop} (h : Q [] H) : tNil σ H Q := h
theorem r_cons {ta : TE} {tr : TA} {Q : List V → Hp → Prop} (h : ta σ H fun x H1 => tr σ H1 fun xs H2 => Q (x :: xs) H2) : tCons ta tr σ H Q := h
theorem r_test {Q : Bool → Hp → Prop} (h : te σ H fun x H' => ∃ k, x = .bl k ∧ Q k H') : tTest te σ H Q := h
theorem r_tB {Q : Bool → Hp → Prop} (h : te σ H fun x H' => ∃ k, x = .bl k ∧ Q k H') : tB te σ H Q := h
theorem r_bl {k : Bool} {Q : Bool → Prop} (h : Q k) : ∃ k', V.bl k = .bl k' ∧ Q k' := ⟨k, rfl, h⟩
theorem r_i0 {g : Int → Int → V} {i j : Int} (h : Q (g i j) H) : rI0 g (.int i) (.int j) H Q := ⟨i, j, rfl, rfl, h⟩
theorem r_iC {C : Int → Int → Prop} {g : Int → Int → V} {i j : Int} (c : C i j) (h : Q (g i j) H) : rI C g (.int i) (.int j) H Q := ⟨i, j, rfl, rfl, c, h⟩
theorem r_U {g : Int → V} {i : Int} (h : Q (g i) H) : rU g (.int i) H Q := ⟨i, rfl, h⟩
theorem r_ixT {a : Addr} {xs : List V} {i : Int} (hs : SqT K H a xs) (e : atI xs i = some v) (h : Q v H) : rIxT K (.ref a) (.int i) H Q := ⟨a, xs, i, v, rfl, rfl, hs, e, h⟩
theorem r_ixL {a : Addr} {xs : List V} {i : Int} (hs : SqL K H a xs) (e : atI xs i = some v) (h : Q v H) : rIxL K (.ref a) (.int i) H Q := ⟨a, xs, i, v, rfl, rfl, hs, e, h⟩
theorem r_eq (hs : scal x y = true) (h : Q (.bl (decide (x = y))) H) : rEq x y H Q := ⟨hs, h⟩
theorem r_ne (hs : scal x y = true) (h : Q (.bl (!decide (x = y))) H) : rNe x y H Q := ⟨hs, h⟩
theorem r_eqI {a b : Int} (h : Q (.bl (decide (a = b))) H) : rEq (.int a) (.int b) H Q := by
  refine ⟨rfl, ?_⟩
  have e : decide (V.int a = V.int b) = decide (a = b) := by simp
  rw [e]
  exact h
theorem r_neI {a b : Int} (h : Q (.bl (!decide (a = b))) H) : rNe (.int a) (.int b) H Q := by
  refine ⟨rfl, ?_⟩
  have e : decide (V.int a = V.int b) = decide (a = b) := by simp
  rw [e]
  exact h
theorem r_eqB {a b : Bool} (h : Q (.bl (decide (a = b))) H) : rEq (.bl a) (.bl b) H Q := by
  refine ⟨rfl, ?_⟩
  have e : decide (V.bl a = V.bl b) = decide (a = b) := by simp
  rw [e]
  exact h
theorem r_neB {a b : Bool} (h : Q (.bl (!decide (a = b))) H) : rNe (.bl a) (.bl b) H Q := by
  refine ⟨rfl, ?_⟩
  have e : decide (V.bl a = V.bl b) = decide (a = b) := by simp
  rw [e]
  exact h
theorem r_andV (h : ta σ H fun x H1 => ∃ c, x = .bl c ∧ if c = true then tb σ H1 Q else Q (.bl false) H1) : tAndV ta tb σ H Q := h
theorem r_orV (h : ta σ H fun x H1 => ∃ c, x = .bl c ∧ if c = true then Q (.bl true) H1 else tb σ H1 Q) : tOrV ta tb σ H Q := h
theorem r_notV (h : ta σ H fun x H1 => ∃ c, x = .bl c ∧ Q (.bl (!c)) H1) : tNotV ta σ H Q := h
theorem r_and {t u : TT} {Q : Bool → Hp → Prop} (h : t σ H fun c H1 => if c = true then u σ H1 Q else Q false H1) : tAnd t u σ H Q := h
theorem r_or {t u : TT} {Q : Bool → Hp → Prop} (h : t σ H fun c H1 => if c = true then Q true H1 else u σ H1 Q) : tOr t u σ H Q := h
theorem r_not {t : TT} {Q : Bool → Hp → Prop} (h : t σ H fun c H1 => Q (!c) H1) : tNot t σ H Q := h
theorem r_fld {f : Str} (h : ta σ H fun x H1 => ∃ a C dx fs v, x = .ref a ∧ H1 a = some (.ins C dx fs) ∧ Cls K C ∧ NoAttr K C f ∧ fs.lookup f = some v ∧ Q v H1) : tFld K ta f σ H Q := h
theorem r_call {sp : Sp} {dvs : List V} {E : XK} {t : TA} (h : t σ H fun vs H1 => sp (vs ++ dvs) H1 Q E) : tCall sp dvs E t σ H Q := h
theorem r_meth {C : Addr} {m : Str} {sp : Sp} {dvs : List V} {E : XK} {t : TA} (h : ta σ H fun x H1 => ∃ a dx fs, x = .ref a ∧ H1 a = some (.ins C dx fs) ∧ fs.lookup m = none ∧ t σ H1 fun vs H2 => sp (x :: (vs ++ dvs)) H2 Q E) : tMeth C m sp dvs E ta t σ H Q := h
theorem r_tup {t : TA} (h : t σ H fun xs H1 => xs.length ≤ sizeLine ∧ ∀ p, H1 p = none → Q (.ref p) (upd H1 p (.tup xs))) : tTup t σ H Q := h
theorem r_lst {t : TA} (h : t σ H fun xs H1 => xs.length ≤ sizeLine ∧ ∀ p, H1 p = none → Q (.ref p) (upd H1 p (.lst xs))) : tLst t σ H Q := h
theorem r_cb {r : List V → Hp → VK → Prop} {t : TA} (h : t σ H fun vs H1 => r vs H1 Q) : tCB r t σ H Q := h
theorem sz1 {α : Type} {xs : List α} (h : xs.length ≤ 1000) : xs.length ≤ sizeLine := Nat.le_trans h (by decide)
end
end Rt
set_option Elab.async false
set_option linter.all false
set_option maxRecDepth 100000
set_option maxHeartbeats 4000000
namespace Rt
open PySem PySem.Spec PyProof.Rows L2
open C8 (Cal Met Mak pe_c pe_mk pe_mt pe_mt0 pe_gc)
/-- a number of so many bits at most -/
structure Bd (n : Nat) (x : Int) : Prop where
  h : x.natAbs < 2 ^ n
theorem Bd.mono {n m : Nat} {x : Int} (h : Bd n x) (k : n ≤ m) : Bd m x := ⟨Nat.lt_of_lt_of_le h.h (Nat.pow_le_pow_right (by decide) k)⟩
theorem pow_succ2 (n : Nat) : 2 ^ (n + 1) = 2 ^ n + 2 ^ n := by rw [Nat.pow_succ]; omega
theorem Bd.add {n m : Nat} {x y : Int} (a : Bd n x) (b : Bd m y) : Bd (max n m + 1) (x + y) := by
  have a2 := (a.mono (Nat.le_max_left n m)).h
  have b2 := (b.mono (Nat.le_max_right n m)).h
  refine ⟨?_⟩
  rw [pow_succ2]
  omega
theorem Bd.sub {n m : Nat} {x y : Int} (a : Bd n x) (b : Bd m y) : Bd (max n m + 1) (x - y) := by
  have a2 := (a.mono (Nat.le_max_left n m)).h
  have b2 := (b.mono (Nat.le_max_right n m)).h
  refine ⟨?_⟩
  rw [pow_succ2]
  omega
theorem Bd.neg {n : Nat} {x : Int} (a : Bd n x) : Bd n (-x) := by
  refine ⟨?_⟩
  rw [Int.natAbs_neg]
  exact a.h
theorem Bd.mul {n m : Nat} {x y : Int} (a : Bd n x) (b : Bd m y) : Bd (n + m) (x * y) := by
  refine ⟨?_⟩
  rw [Int.natAbs_mul, Nat.pow_add]
  exact Nat.mul_lt_mul'' a.h b.h
theorem Bd.lit {x : Int} (h : x.natAbs < 2 ^ 64) : Bd 64 x := ⟨h⟩
theorem bd_mul {n m : Nat} {i j : Int} (a : Bd n i) (b : Bd m j) (h : n + m ≤ 900000) : CMulW i j := by
  refine wide_mul (a := n + 1) (b := m + 1) (a.mono (Nat.le_succ n)).h (b.mono (Nat.le_succ m)).h (by omega) (by omega) (by omega)
theorem r_iM {H : Hp} {Q : VK} {g : Int → Int → V} {i j : Int} (c : CMulW i j) (q : Q (g i j) H) : rI CMulW g (.int i) (.int j) H Q := r_iC c q
local macro_rules | `(tactic| walk_at "bd") => `(tactic| first
  | assumption | exact Bd.sub (by walk_at "bd") (by walk_at "bd") | exact Bd.add (by walk_at "bd") (by walk_at "bd") | exact Bd.mul (by walk_at "bd") (by walk_at "bd") | exact Bd.neg (by walk_at "bd") | exact Bd.lit (by decide))
local macro_rules | `(tactic| walk_at "r") => `(tactic| with_reducible first
  | refine r_seq ?_ | refine r_ret ?_ | refine r_asg ?_ | refine r_drop ?_ | refine r_op ?_ | refine r_un ?_ | refine r_c ?_ | refine r_cons ?_ | refine r_nil ?_ | refine r_i0 ?_ | refine r_U ?_ | refine r_name ?_ | refine r_if ?_ | refine r_test ?_ | refine r_tB ?_ | refine r_bl ?_
  | refine r_call ?_ | refine r_meth ?_ | refine r_fld ?_ | refine r_tup ?_ | refine r_lst ?_ | refine r_cb ?_ | refine r_andV ?_ | refine r_orV ?_ | refine r_notV ?_ | refine r_and ?_ | refine r_or ?_ | refine r_not ?_ | refine r_eqI ?_ | refine r_neI ?_ | refine r_eqB ?_ | refine r_neB ?_
  | refine r_var (by with_unfolding_all rfl) ?_)
local macro_rules | `(tactic| walk_at "s") => `(tactic| first
  | walk_at "r" | (with_reducible refine r_ixT (by assumption) (by with_unfolding_all rfl) ?_) | ((with_reducible refine r_iM ?_ ?_); exact bd_mul (by walk_at "bd") (by walk_at "bd") (by decide)))
section
variable {P : Program} {w : World} {K : PySem.W.Frag} {mg : Str → Option Value} {base : Heap}
def spCross (K : PySem.W.Frag) : Sp := fun vs H Q _ => ∃ (p q : Addr) (a b c d : Int), vs = [.ref p, .ref q] ∧ SqT K H p [.int a, .int b] ∧ SqT K H q [.int c, .int d] ∧ (Bd 5000 a ∧ Bd 5000 b ∧ Bd 5000 c ∧ Bd 5000 d) ∧ Q (.int (a * d - b * c)) H
theorem ok_cross (T : Tx K mg base) : Cal P w K mg base 1 "cross" (spCross K) [] := by
  refine mkC T.f_cross T.g_cross sc_cross (fun _ _ _ _ _ _ us hl => match us, hl with | [_, _], _ => rfl) (fun vs H Q E h => ?_) (fun f cdv A outer s H vs Q E hr h => ⟨_, (pss_one (ps_ret (pe_op op_sub (pe_op op_mulW (pe_ix ix_tup (pv 0) pe_int (fun _ _ => rfl)) (pe_ix ix_tup (pv 1) pe_int (fun _ _ => rfl))) (pe_op op_mulW (pe_ix ix_tup (pv 0) pe_int (fun _ _ => rfl)) (pe_ix ix_tup (pv 1) pe_int (fun _ _ => rfl)))))), ?_⟩)
  · obtain ⟨p, q, a, b, c, d, rfl, _⟩ := h
    rfl
  · obtain ⟨p, q, a, b, c, d, rfl, hp, hq, ⟨b1, b2, b3, b4⟩, k⟩ := h
    dsimp only [cxOf, Cx.nox, Cx.wish]
    repeat walk_at "s"
    exact k
end
end Rt
set_option Elab.async false
set_option linter.all false
set_option maxRecDepth 100000
set_option maxHeartbeats 4000000
namespace Rt
open PySem PySem.Spec PyProof.Rows L2
open C8 (Cal Met Mak pe_c pe_mk pe_mt pe_mt0 pe_gc)
local macro_rules | `(tactic| walk_at "bd") => `(tactic| first
  | assumption | exact Bd.sub (by walk_at "bd") (by walk_at "bd") | exact Bd.add (by walk_at "bd") (by walk_at "bd") | exact Bd.mul (by walk_at "bd") (by walk_at "bd") | exact Bd.neg (by walk_at "bd") | exact Bd.lit (by decide))
local macro_rules | `(tactic| walk_at "r") => `(tactic| with_reducible first
  | refine r_seq ?_ | refine r_ret ?_ | refine r_asg ?_ | refine r_drop ?_ | refine r_op ?_ | refine r_un ?_ | refine r_c ?_ | refine r_cons ?_ | refine r_nil ?_ | refine r_i0 ?_ | refine r_U ?_ | refine r_name ?_ | refine r_if ?_ | refine r_test ?_ | refine r_tB ?_ | refine r_bl ?_
  | refine r_call ?_ | refine r_meth ?_ | refine r_fld ?_ | refine r_tup ?_ | refine r_lst ?_ | refine r_cb ?_ | refine r_andV ?_ | refine r_orV ?_ | refine r_notV ?_ | refine r_and ?_ | refine r_or ?_ | refine r_not ?_ | refine r_eqI ?_ | refine r_neI ?_ | refine r_eqB ?_ | refine r_neB ?_
  | refine r_next ?_ | refine r_gcons ?_ | refine r_gnil ?_ | refine r_var (by with_unfolding_all rfl) ?_)
local macro_rules | `(tactic| walk_at "s") => `(tactic| first
  | walk_at "r" | (with_reducible refine r_ixT (by assumption) (by with_unfolding_all rfl) ?_) | ((with_reducible refine r_iM ?_ ?_); exact bd_mul (by walk_at "bd") (by walk_at "bd") (by decide)) | (with_reducible refine r_gtup (by assumption) (by with_unfolding_all rfl) ?_) | refine RoomAt.meth (by assumption) ?_)
local macro_rules | `(tactic| walk_at "d") => `(tactic| dsimp only [cxOf, Cx.nox, Cx.wish])

theorem sz0 {α : Type} : ([] : List α).length ≤ sizeLine := by show 0 ≤ sizeLine; decide
theorem szA {α : Type} {x : α} : [x].length ≤ sizeLine := by show 1 ≤ sizeLine; decide
theorem sz2 {α : Type} {x y : α} : [x, y].length ≤ sizeLine := by show 2 ≤ sizeLine; decide
theorem sz3 {α : Type} {x y z : α} : [x, y, z].length ≤ sizeLine := by show 3 ≤ sizeLine; decide
theorem sz4 {α : Type} {x y z w : α} : [x, y, z, w].length ≤ sizeLine := by show 4 ≤ sizeLine; decide
theorem r_iteB {b : Bool} {A B : Prop} (h1 : b = true → A) (h2 : b = false → B) : if b = true then A else B := by
  cases b with
  | true => rw [if_pos rfl]; exact h1 rfl
  | false => rw [if_neg Bool.false_ne_true]; exact h2 rfl
/-! ### a room in the heap -/
structure RW (r : Eh.Room) : Prop where
  n3 : 3 ≤ r.n
  n64 : r.n ≤ 64
  h1 : 1 ≤ r.h
  h2 : r.h ≤ 4095
  crn : ∀ i, 0 ≤ (r.corner i).x ∧ (r.corner i).x ≤ 4095 ∧ 0 ≤ (r.corner i).y ∧ (r.corner i).y ≤ 4095
theorem bd_of {n : Nat} {x : Int} (a : -(2 ^ n : Int) < x) (b : x < (2 ^ n : Int)) : Bd n x := by
  have e : ((2 ^ n : Nat) : Int) = (2 : Int) ^ n := by simp
  refine ⟨?_⟩
  omega
section
variable {r : Eh.Room}
theorem RW.bx (R : RW r) (i : Nat) : Bd 12 (r.corner i).x := bd_of (by have := (R.crn i).1; omega) (by have := (R.crn i).2.1; omega)
theorem RW.by_ (R : RW r) (i : Nat) : Bd 12 (r.corner i).y := bd_of (by have := (R.crn i).2.2.1; omega) (by have := (R.crn i).2.2.2; omega)
theorem RW.bh (R : RW r) : Bd 12 r.h := bd_of (by have := R.h1; omega) (by have := R.h2; omega)
theorem RW.dx (R : RW r) (i : Nat) : Bd 12 (iDir r i).1 := by
  have a := R.crn i
  have b := R.crn (i + 1)
  exact bd_of (by show _ < (r.corner (i + 1)).x - (r.corner i).x; omega) (by show (r.corner (i + 1)).x - (r.corner i).x < _; omega)
theorem RW.dy (R : RW r) (i : Nat) : Bd 12 (iDir r i).2 := by
  have a := R.crn i
  have b := R.crn (i + 1)
  exact bd_of (by show _ < (r.corner (i + 1)).y - (r.corner i).y; omega) (by show (r.corner (i + 1)).y - (r.corner i).y < _; omega)
end
def stf (r : Eh.Room) : List Int := r.corners.map (fun c => (c.stuff : Int)) ++ [(r.floor_ : Int), (r.ceiling : Int)]
def roomF (h : Int) (ac as : Addr) : List (Str × V) := [("height", .int h), ("corners", .ref ac), ("stuffs", .ref as)]
theorem lk_here {k : Str} {v : V} {r : List (Str × V)} : List.lookup k ((k, v) :: r) = some v := by
  have e : (k == k) = true := beq_self_eq_true k
  simp only [List.lookup, e]
theorem lk_past {k g : Str} {v : V} {r : List (Str × V)} (h : (k == g) = false) : List.lookup k ((g, v) :: r) = List.lookup k r := by
  simp only [List.lookup, h]
theorem lk_no {k : Str} : List.lookup k ([] : List (Str × V)) = none := rfl
theorem put_here {f : Str} {v x : V} {r : List (Str × V)} : putF f v ((f, x) :: r) = (f, v) :: r := if_pos rfl
theorem put_past {f g : Str} {v x : V} {r : List (Str × V)} (h : ¬ g = f) : putF f v ((g, x) :: r) = (g, x) :: putF f v r := if_neg h
section
variable {K : PySem.W.Frag} {H H' : Hp} {a : Addr} {r : Eh.Room}
structure RoomAt (K : PySem.W.Frag) (H : Hp) (a : Addr) (r : Eh.Room) : Prop where
  rw_ : RW r
  ex : ∃ (dx ac as : Addr) (cps : List Addr), H a = some (.ins (He.ga K "Room") dx (roomF r.h ac as)) ∧ H ac = some (.lst (cps.map V.ref)) ∧ cps.length = r.n ∧
    (∀ (i : Nat) (p : Addr), cps[i]? = some p → SqT K H p [.int (r.corner i).x, .int (r.corner i).y]) ∧ H as = some (.lst ((stf r).map V.int))
theorem _root_.L2.Same.tup {xs : List V} (e : Same H H') (h : SqT K H a xs) : SqT K H' a xs := by
  rcases h with (h | ⟨o, h⟩) | h
  · exact .inl (.inl (e _ _ h))
  · exact .inl (.inr ⟨o, e _ _ h⟩)
  · exact .inr h
theorem RoomAt.same (h : RoomAt K H a r) (e : Same H H') : RoomAt K H' a r := by
  obtain ⟨R, dx, ac, as, cps, h1, h2, h3, h4, h5⟩ := h
  exact ⟨R, dx, ac, as, cps, e _ _ h1, e _ _ h2, h3, fun i p q => Same.tup e (h4 i p q), e _ _ h5⟩
theorem same_new {o : HO} {p : Addr} (hp : H p = none) : Same H (upd H p o) := fun b u q => by
  rw [upd_ne (ne_of_none q hp)]
  exact q
abbrev P4 (K : PySem.W.Frag) (H : Hp) (p : Addr) (q : Q4) : Prop := SqT K H p [.int q.x, .int q.y, .int q.z, .int q.w]
def B4 (n : Nat) (q : Q4) : Prop := Bd n q.x ∧ Bd n q.y ∧ Bd n q.z ∧ Bd n q.w
theorem B4.mono {n m : Nat} {q : Q4} (h : B4 n q) (k : n ≤ m) : B4 m q := ⟨h.1.mono k, h.2.1.mono k, h.2.2.1.mono k, h.2.2.2.mono k⟩
end
section
variable {σ : L2.St} {H : Hp} {K : PySem.W.Frag} {v : V} {Q : L2.St → Hp → Prop}
theorem r_gtup {a : Addr} {xs : List V} {n : Nat} {t : TGs} (hs : SqT K H a xs) (hl : xs.length = n) (h : t xs σ H Q) : gTup K n t (.ref a) σ H Q := ⟨a, xs, rfl, hs, hl, h⟩
theorem r_gcons {t : TG} {u : TGs} {r : List V} (h : t v σ H fun σ' H' => u r σ' H' Q) : gCons t u (v :: r) σ H Q := ⟨v, r, rfl, h⟩
theorem r_gnil (h : Q σ H) : gNil [] σ H Q := ⟨rfl, h⟩
theorem RoomAt.meth {a : Addr} {r : Eh.Room} {m : Str} {R : Prop} (hR : RoomAt K H a r) (h : R) (n1 : (m == ("height" : Str)) = false := by decide +kernel) (n2 : (m == ("corners" : Str)) = false := by decide +kernel) (n3 : (m == ("stuffs" : Str)) = false := by decide +kernel) :
    ∃ a' dx fs, V.ref a = .ref a' ∧ H a' = some (.ins (He.ga K "Room") dx fs) ∧ fs.lookup m = none ∧ R := by
  obtain ⟨_, dx, ac, as, cps, h1, _⟩ := hR
  exact ⟨a, dx, _, rfl, h1, (lk_past n1).trans ((lk_past n2).trans ((lk_past n3).trans lk_no)), h⟩
end
section
variable {P : Program} {w : World} {K : PySem.W.Frag} {mg : Str → Option Value} {base : Heap}
def spMany (K : PySem.W.Frag) : Sp := fun vs H Q _ => ∃ (a : Addr) (r : Eh.Room), vs = [.ref a] ∧ RoomAt K H a r ∧ Q (.int r.n) H
theorem ok_Room_many (T : Tx K mg base) : Met P w K mg base 1 (He.ga K "Room") "many" (spMany K) [] := by
  refine mkM T.f_Room_many T.k_Room T.t_Room_many sc_Room_many (fun _ _ _ _ _ _ us hl => match us, hl with | [_], _ => rfl) (fun vs H Q E h => ?_) (fun f cdv A outer s H vs Q E hr h => ⟨_, (pss_one (ps_ret (pe_callB call_len_seq (by rfl) T.n_len PySem.boot_len (pa_cons (pe_fld (pv 0) rfl) pa_nil)))), ?_⟩)
  · obtain ⟨a, r, rfl, _⟩ := h
    rfl
  · obtain ⟨a, r, rfl, hR, k⟩ := h
    obtain ⟨R, dx, ac, as, cps, h1, h2, h3, h4, h5⟩ := hR
    walk_at "d"
    repeat walk_at "s"
    refine ⟨_, _, _, _, _, rfl, h1, T.k_Room, T.a_Room_corners, (lk_past (by decide +kernel)).trans lk_here, ?_⟩
    repeat walk_at "s"
    refine ⟨_, _, rfl, .inl (SqL.of h2), ?_⟩
    rw [List.length_map, h3]
    exact k
def spCorner (K : PySem.W.Frag) : Sp := fun vs H Q _ => ∃ (a : Addr) (r : Eh.Room) (i : Nat), vs = [.ref a, .int i] ∧ RoomAt K H a r ∧ ∀ p, SqT K H p [.int (r.corner i).x, .int (r.corner i).y] → Q (.ref p) H
theorem ok_Room_corner (T : Tx K mg base) : Met P w K mg base 2 (He.ga K "Room") "corner" (spCorner K) [] := by
  refine mkM T.f_Room_corner T.k_Room T.t_Room_corner sc_Room_corner (fun _ _ _ _ _ _ us hl => match us, hl with | [_, _], _ => rfl) (fun vs H Q E h => ?_) (fun f cdv A outer s H vs Q E hr h => ⟨_, (pss_one (ps_ret (pe_ix ix_list (pe_fld (pv 0) rfl) (pe_op op_mod (pv 1) (pe_mt0 (ok_Room_many T) hr (by decide) (pv 0))) (fun _ _ => rfl)))), ?_⟩)
  · obtain ⟨a, r, i, rfl, _⟩ := h
    rfl
  · obtain ⟨a, r, i, rfl, hR, k⟩ := h
    have hR' := hR
    obtain ⟨R, dx, ac, as, cps, h1, h2, h3, h4, h5⟩ := hR'
    walk_at "d"
    repeat walk_at "s"
    refine ⟨_, _, _, _, _, rfl, h1, T.k_Room, T.a_Room_corners, (lk_past (by decide +kernel)).trans lk_here, ?_⟩
    repeat walk_at "s"
    refine RoomAt.meth hR ?_
    repeat walk_at "s"
    refine ⟨a, r, rfl, hR, ?_⟩
    have hn : 0 < r.n := by have := R.n3; omega
    refine r_iC (show (0 : Int) < r.n by omega) ?_
    have hi : i % r.n < cps.length := by rw [h3]; exact Nat.mod_lt _ hn
    have e : cps[i % r.n]? = some cps[i % r.n] := List.getElem?_eq_getElem hi
    refine r_ixL (SqL.of h2) (at_of (j := i % r.n) (by omega) (v := .ref cps[i % r.n]) (by rw [List.getElem?_map, e]; rfl)) ?_
    refine k _ ?_
    have q := h4 _ _ e
    have e2 : r.corner (i % r.n) = r.corner i := by
      unfold Eh.Room.corner
      rw [Nat.mod_mod]
    rw [e2] at q
    exact q
end
end Rt
set_option Elab.async false
set_option linter.all false
set_option maxRecDepth 100000
set_option maxHeartbeats 4000000
namespace Rt
open PySem PySem.Spec PyProof.Rows L2
open C8 (Cal Met Mak pe_c pe_mk pe_mt pe_mt0 pe_gc)
local macro_rules | `(tactic| walk_at "bd") => `(tactic| first
  | assumption | exact Bd.sub (by walk_at "bd") (by walk_at "bd") | exact Bd.add (by walk_at "bd") (by walk_at "bd") | exact Bd.mul (by walk_at "bd") (by walk_at "bd") | exact Bd.neg (by walk_at "bd") | exact Bd.lit (by decide))
local macro_rules | `(tactic| walk_at "r") => `(tactic| with_reducible first
  | refine r_seq ?_ | refine r_ret ?_ | refine r_asg ?_ | refine r_drop ?_ | refine r_op ?_ | refine r_un ?_ | refine r_c ?_ | refine r_cons ?_ | refine r_nil ?_ | refine r_i0 ?_ | refine r_U ?_ | refine r_name ?_ | refine r_if ?_ | refine r_test ?_ | refine r_tB ?_ | refine r_bl ?_
  | refine r_call ?_ | refine r_meth ?_ | refine r_fld ?_ | refine r_tup ?_ | refine r_lst ?_ | refine r_cb ?_ | refine r_andV ?_ | refine r_orV ?_ | refine r_notV ?_ | refine r_and ?_ | refine r_or ?_ | refine r_not ?_ | refine r_eqI ?_ | refine r_neI ?_ | refine r_eqB ?_ | refine r_neB ?_
  | refine r_next ?_ | refine r_gcons ?_ | refine r_gnil ?_ | refine r_var (by with_unfolding_all rfl) ?_)
local macro_rules | `(tactic| walk_at "s") => `(tactic| first
  | walk_at "r" | (with_reducible refine r_ixT (by assumption) (by with_unfolding_all rfl) ?_) | ((with_reducible refine r_iM ?_ ?_); exact bd_mul (by walk_at "bd") (by walk_at "bd") (by decide)) | (with_reducible refine r_gtup (by assumption) (by with_unfolding_all rfl) ?_) | refine RoomAt.meth (by assumption) ?_)
local macro_rules | `(tactic| walk_at "d") => `(tactic| dsimp only [cxOf, Cx.nox, Cx.wish])

section
variable {P : Program} {w : World} {K : PySem.W.Frag} {mg : Str → Option Value} {base : Heap}
def spDir (K : PySem.W.Frag) : Sp := fun vs H Q _ => ∃ (a : Addr) (r : Eh.Room) (i : Nat), vs = [.ref a, .int i] ∧ RoomAt K H a r ∧ ∀ H' p, Same H H' → SqT K H' p [.int (iDir r i).1, .int (iDir r i).2] → Q (.ref p) H'
theorem ok_Room_direction (T : Tx K mg base) : Met P w K mg base 3 (He.ga K "Room") "direction" (spDir K) [] := by
  refine mkM T.f_Room_direction T.k_Room T.t_Room_direction sc_Room_direction (fun _ _ _ _ _ _ us hl => match us, hl with | [_, _], _ => rfl) (fun vs H Q E h => ?_) (fun f cdv A outer s H vs Q E hr h => ⟨_, (pss_cons (ps_asg (pe_mt (ok_Room_corner T) hr (by decide) (pv 0) (pa_cons (pv 1) pa_nil)) (pg_tup rfl (pgs_cons (pg_name (i := 2) sc_Room_direction.nd rfl (Or.inl rfl)) (pgs_cons (pg_name (i := 3) sc_Room_direction.nd rfl (Or.inl rfl)) pgs_nil))))
      (pss_cons (ps_asg (pe_mt (ok_Room_corner T) hr (by decide) (pv 0) (pa_cons (pe_op op_add (pv 1) pe_int) pa_nil)) (pg_tup rfl (pgs_cons (pg_name (i := 4) sc_Room_direction.nd rfl (Or.inl rfl)) (pgs_cons (pg_name (i := 5) sc_Room_direction.nd rfl (Or.inl rfl)) pgs_nil))))
      (pss_one (ps_ret (pe_tup (pa_cons (pe_op op_sub (pv 4) (pv 2)) (pa_cons (pe_op op_sub (pv 5) (pv 3)) pa_nil))))))), ?_⟩)
  · obtain ⟨a, r, i, rfl, _⟩ := h
    rfl
  · obtain ⟨a, r, i, rfl, hR, k⟩ := h
    walk_at "d"
    repeat walk_at "s"
    refine ⟨a, r, i, rfl, hR, fun p hp => ?_⟩
    repeat walk_at "s"
    refine ⟨a, r, i + 1, by simp, hR, fun q hq => ?_⟩
    repeat walk_at "s"
    refine ⟨sz2, fun t ht => ?_⟩
    exact k _ _ (same_new ht) (SqT.of upd_same)
def spBeside (K : PySem.W.Frag) : Sp := fun vs H Q _ => ∃ (a p : Addr) (r : Eh.Room) (i : Nat) (q : Q4), vs = [.ref a, .int i, .ref p] ∧ RoomAt K H a r ∧ P4 K H p q ∧ B4 4000 q ∧ ∀ H', Same H H' → Q (.int (iBeside r i q)) H'
theorem ok_Room_beside (T : Tx K mg base) : Met P w K mg base 4 (He.ga K "Room") "beside" (spBeside K) [] := by
  refine mkM T.f_Room_beside T.k_Room T.t_Room_beside sc_Room_beside (fun _ _ _ _ _ _ us hl => match us, hl with | [_, _, _], _ => rfl) (fun vs H Q E h => ?_) (fun f cdv A outer s H vs Q E hr h => ⟨_, (pss_cons (ps_asg (pe_mt (ok_Room_corner T) hr (by decide) (pv 0) (pa_cons (pv 1) pa_nil)) (pg_tup rfl (pgs_cons (pg_name (i := 3) sc_Room_beside.nd rfl (Or.inl rfl)) (pgs_cons (pg_name (i := 4) sc_Room_beside.nd rfl (Or.inl rfl)) pgs_nil))))
      (pss_one (ps_ret (pe_c (ok_cross T) hr (by decide) rfl (pa_cons (pe_mt (ok_Room_direction T) hr (by decide) (pv 0) (pa_cons (pv 1) pa_nil)) (pa_cons (pe_tup (pa_cons (pe_op op_sub (pe_ix ix_tup (pv 2) pe_int (fun _ _ => rfl)) (pe_op op_mulW (pv 3) (pe_ix ix_tup (pv 2) pe_int (fun _ _ => rfl)))) (pa_cons (pe_op op_sub (pe_ix ix_tup (pv 2) pe_int (fun _ _ => rfl)) (pe_op op_mulW (pv 4) (pe_ix ix_tup (pv 2) pe_int (fun _ _ => rfl)))) pa_nil))) pa_nil)))))), ?_⟩)
  · obtain ⟨a, p, r, i, q, rfl, _⟩ := h
    rfl
  · obtain ⟨a, p, r, i, q, rfl, hR, hp, ⟨b1, b2, b3, b4⟩, k⟩ := h
    have bx := hR.rw_.bx i
    have by' := hR.rw_.by_ i
    walk_at "d"
    repeat walk_at "s"
    refine ⟨a, r, i, rfl, hR, fun c hc => ?_⟩
    repeat walk_at "s"
    refine ⟨a, r, i, rfl, hR, fun H1 d S1 hd => ?_⟩
    have hp1 := S1.tup hp
    repeat walk_at "s"
    refine ⟨sz2, fun t ht => ?_⟩
    have S2 := same_new (o := .tup [V.int (q.x - (r.corner i).x * q.w), V.int (q.y - (r.corner i).y * q.w)]) ht
    repeat walk_at "s"
    refine ⟨d, t, _, _, _, _, rfl, S2.tup hd, SqT.of upd_same, ⟨(hR.rw_.dx i).mono (by decide), (hR.rw_.dy i).mono (by decide), ?_, ?_⟩, ?_⟩
    · exact (Bd.sub b1 (Bd.mul bx b4)).mono (by decide)
    · exact (Bd.sub b2 (Bd.mul by' b4)).mono (by decide)
    · exact k _ (S1.trans S2)
def spSide (K : PySem.W.Frag) : Sp := fun vs H Q _ => ∃ (a p : Addr) (r : Eh.Room) (i : Nat) (q : Q4), vs = [.ref a, .int i, .ref p] ∧ RoomAt K H a r ∧ P4 K H p q ∧ B4 4000 q ∧ ∀ H', Same H H' → Q (.int (iSide r i q)) H'
theorem ok_Room_side (T : Tx K mg base) : Met P w K mg base 5 (He.ga K "Room") "side" (spSide K) [] := by
  refine mkM T.f_Room_side T.k_Room T.t_Room_side sc_Room_side (fun _ _ _ _ _ _ us hl => match us, hl with | [_, _, _], _ => rfl) (fun vs H Q E h => ?_) (fun f cdv A outer s H vs Q E hr h => ⟨_, (pss_cons (ps_if (pt_cmpR op_eq (pv 1) (pe_mt0 (ok_Room_many T) hr (by decide) (pv 0)) (nomark _)) (pss_one (ps_ret (pe_ix ix_tup (pv 2) pe_int (fun _ _ => rfl)))) pss_nil)
      (pss_cons (ps_if (pt_cmpR op_gt (pv 1) (pe_mt0 (ok_Room_many T) hr (by decide) (pv 0)) (nomark _)) (pss_one (ps_ret (pe_op op_sub (pe_op op_mulW (pe_fld (pv 0) rfl) (pe_ix ix_tup (pv 2) pe_int (fun _ _ => rfl))) (pe_ix ix_tup (pv 2) pe_int (fun _ _ => rfl))))) pss_nil)
      (pss_one (ps_ret (pe_mt (ok_Room_beside T) hr (by decide) (pv 0) (pa_cons (pv 1) (pa_cons (pv 2) pa_nil))))))), ?_⟩)
  · obtain ⟨a, p, r, i, q, rfl, _⟩ := h
    rfl
  · obtain ⟨a, p, r, i, q, rfl, hR, hp, bq, k⟩ := h
    obtain ⟨b1, b2, b3, b4⟩ := id bq
    have bh := hR.rw_.bh
    walk_at "d"
    repeat walk_at "s"
    refine ⟨a, r, rfl, hR, ?_⟩
    repeat walk_at "s"
    refine r_iteB (fun c => ?_) fun c => ?_
    · repeat walk_at "s"
      have e : iSide r i q = q.z := if_pos (by have := of_decide_eq_true c; omega)
      rw [← e]
      exact k _ (Same.refl H)
    · have ne : i ≠ r.n := fun z => by rw [z] at c; simp at c
      repeat walk_at "s"
      refine ⟨a, r, rfl, hR, ?_⟩
      repeat walk_at "s"
      refine r_iteB (fun c2 => ?_) fun c2 => ?_
      · have lt : r.n < i := by have := of_decide_eq_true c2; omega
        repeat walk_at "s"
        obtain ⟨R, dx, ac, as, cps, h1, h2, h3, h4, h5⟩ := id hR
        refine ⟨_, _, _, _, _, rfl, h1, T.k_Room, T.a_Room_height, lk_here, ?_⟩
        repeat walk_at "s"
        have e : iSide r i q = r.h * q.w - q.z := (if_neg ne).trans (if_pos lt)
        rw [← e]
        exact k _ (Same.refl H)
      · have nlt : ¬ r.n < i := fun z => by have := of_decide_eq_false c2; omega
        repeat walk_at "s"
        refine ⟨a, p, r, i, q, rfl, hR, hp, bq, fun H' S => ?_⟩
        have e : iSide r i q = iBeside r i q := (if_neg ne).trans (if_neg nlt)
        rw [← e]
        exact k _ S
end
end Rt
set_option Elab.async false
set_option linter.all false
set_option maxRecDepth 100000
set_option maxHeartbeats 4000000
namespace Rt
open PySem PySem.Spec PyProof.Rows L2
open C8 (Cal Met Mak pe_c pe_mk pe_mt pe_mt0 pe_gc)
local macro_rules | `(tactic| walk_at "bd") => `(tactic| first
  | assumption | exact Bd.sub (by walk_at "bd") (by walk_at "bd") | exact Bd.add (by walk_at "bd") (by walk_at "bd") | exact Bd.mul (by walk_at "bd") (by walk_at "bd") | exact Bd.neg (by walk_at "bd") | exact Bd.lit (by decide))
local macro_rules | `(tactic| walk_at "r") => `(tactic| with_reducible first
  | refine r_seq ?_ | refine r_ret ?_ | refine r_asg ?_ | refine r_drop ?_ | refine r_op ?_ | refine r_un ?_ | refine r_c ?_ | refine r_cons ?_ | refine r_nil ?_ | refine r_i0 ?_ | refine r_U ?_ | refine r_name ?_ | refine r_if ?_ | refine r_test ?_ | refine r_tB ?_ | refine r_bl ?_
  | refine r_call ?_ | refine r_meth ?_ | refine r_fld ?_ | refine r_tup ?_ | refine r_lst ?_ | refine r_cb ?_ | refine r_andV ?_ | refine r_orV ?_ | refine r_notV ?_ | refine r_and ?_ | refine r_or ?_ | refine r_not ?_ | refine r_eqI ?_ | refine r_neI ?_ | refine r_eqB ?_ | refine r_neB ?_
  | refine r_next ?_ | refine r_gcons ?_ | refine r_gnil ?_ | refine r_var (by with_unfolding_all rfl) ?_)
local macro_rules | `(tactic| walk_at "s") => `(tactic| first
  | walk_at "r" | (with_reducible refine r_ixT (by assumption) (by with_unfolding_all rfl) ?_) | ((with_reducible refine r_iM ?_ ?_); exact bd_mul (by walk_at "bd") (by walk_at "bd") (by decide)) | (with_reducible refine r_gtup (by assumption) (by with_unfolding_all rfl) ?_) | refine RoomAt.meth (by assumption) ?_)
local macro_rules | `(tactic| walk_at "d") => `(tactic| dsimp only [cxOf, Cx.nox, Cx.wish])

section
variable {P : Program} {w : World} {K : PySem.W.Frag} {mg : Str → Option Value} {base : Heap}
def spAlong (K : PySem.W.Frag) : Sp := fun vs H Q _ => ∃ (a p : Addr) (r : Eh.Room) (i : Nat) (q : Q4), vs = [.ref a, .int i, .ref p] ∧ RoomAt K H a r ∧ P4 K H p q ∧ B4 4000 q ∧ ∀ H', Same H H' → Q (.int (iAlong r i q)) H'
theorem ok_Room_along (T : Tx K mg base) : Met P w K mg base 4 (He.ga K "Room") "along" (spAlong K) [] := by
  refine mkM T.f_Room_along T.k_Room T.t_Room_along sc_Room_along (fun _ _ _ _ _ _ us hl => match us, hl with | [_, _, _], _ => rfl) (fun vs H Q E h => ?_) (fun f cdv A outer s H vs Q E hr h => ⟨_, (pss_cons (ps_asg (pe_mt (ok_Room_corner T) hr (by decide) (pv 0) (pa_cons (pv 1) pa_nil)) (pg_tup rfl (pgs_cons (pg_name (i := 3) sc_Room_along.nd rfl (Or.inl rfl)) (pgs_cons (pg_name (i := 4) sc_Room_along.nd rfl (Or.inl rfl)) pgs_nil))))
      (pss_cons (ps_asg (pe_mt (ok_Room_direction T) hr (by decide) (pv 0) (pa_cons (pv 1) pa_nil)) (pg_tup rfl (pgs_cons (pg_name (i := 5) sc_Room_along.nd rfl (Or.inl rfl)) (pgs_cons (pg_name (i := 6) sc_Room_along.nd rfl (Or.inl rfl)) pgs_nil))))
      (pss_one (ps_ret (pe_op op_add (pe_op op_mulW (pv 5) (pe_op op_sub (pe_ix ix_tup (pv 2) pe_int (fun _ _ => rfl)) (pe_op op_mulW (pv 3) (pe_ix ix_tup (pv 2) pe_int (fun _ _ => rfl))))) (pe_op op_mulW (pv 6) (pe_op op_sub (pe_ix ix_tup (pv 2) pe_int (fun _ _ => rfl)) (pe_op op_mulW (pv 4) (pe_ix ix_tup (pv 2) pe_int (fun _ _ => rfl)))))))))), ?_⟩)
  · obtain ⟨a, p, r, i, q, rfl, _⟩ := h
    rfl
  · obtain ⟨a, p, r, i, q, rfl, hR, hp, ⟨b1, b2, b3, b4⟩, k⟩ := h
    have bx := hR.rw_.bx i
    have by' := hR.rw_.by_ i
    have dx := hR.rw_.dx i
    have dy := hR.rw_.dy i
    walk_at "d"
    repeat walk_at "s"
    refine ⟨a, r, i, rfl, hR, fun c hc => ?_⟩
    repeat walk_at "s"
    refine ⟨a, r, i, rfl, hR, fun H1 d S1 hd => ?_⟩
    have hp1 := S1.tup hp
    repeat walk_at "s"
    exact k _ S1
def spSize (K : PySem.W.Frag) : Sp := fun vs H Q _ => ∃ (a : Addr) (r : Eh.Room) (i : Nat), vs = [.ref a, .int i] ∧ RoomAt K H a r ∧ ∀ H', Same H H' → Q (.int (iSize r i)) H'
theorem ok_Room_size (T : Tx K mg base) : Met P w K mg base 4 (He.ga K "Room") "size" (spSize K) [] := by
  refine mkM T.f_Room_size T.k_Room T.t_Room_size sc_Room_size (fun _ _ _ _ _ _ us hl => match us, hl with | [_, _], _ => rfl) (fun vs H Q E h => ?_) (fun f cdv A outer s H vs Q E hr h => ⟨_, (pss_cons (ps_asg (pe_mt (ok_Room_direction T) hr (by decide) (pv 0) (pa_cons (pv 1) pa_nil)) (pg_tup rfl (pgs_cons (pg_name (i := 2) sc_Room_size.nd rfl (Or.inl rfl)) (pgs_cons (pg_name (i := 3) sc_Room_size.nd rfl (Or.inl rfl)) pgs_nil))))
      (pss_one (ps_ret (pe_op op_add (pe_op op_mulW (pv 2) (pv 2)) (pe_op op_mulW (pv 3) (pv 3)))))), ?_⟩)
  · obtain ⟨a, r, i, rfl, _⟩ := h
    rfl
  · obtain ⟨a, r, i, rfl, hR, k⟩ := h
    have dx := hR.rw_.dx i
    have dy := hR.rw_.dy i
    walk_at "d"
    repeat walk_at "s"
    refine ⟨a, r, i, rfl, hR, fun H1 d S1 hd => ?_⟩
    repeat walk_at "s"
    exact k _ S1
theorem bd_size {r : Eh.Room} (R : RW r) (i : Nat) : Bd 25 (iSize r i) := (Bd.add (Bd.mul (R.dx i) (R.dx i)) (Bd.mul (R.dy i) (R.dy i))).mono (by decide)
def spOn (K : PySem.W.Frag) (f : Eh.Room → Nat → Q4 → Bool) : Sp := fun vs H Q _ => ∃ (a p : Addr) (r : Eh.Room) (i : Nat) (q : Q4), vs = [.ref a, .int i, .ref p] ∧ RoomAt K H a r ∧ P4 K H p q ∧ B4 4000 q ∧ ∀ H', Same H H' → Q (.bl (f r i q)) H'
theorem ok_Room_is_on (T : Tx K mg base) : Met P w K mg base 5 (He.ga K "Room") "is_on" (spOn K iOn) [] := by
  refine mkM T.f_Room_is_on T.k_Room T.t_Room_is_on sc_Room_is_on (fun _ _ _ _ _ _ us hl => match us, hl with | [_, _, _], _ => rfl) (fun vs H Q E h => ?_) (fun f cdv A outer s H vs Q E hr h => ⟨_, (pss_cons (ps_set (i := 3) sc_Room_is_on.nd rfl (Or.inl rfl) (pe_mt (ok_Room_along T) hr (by decide) (pv 0) (pa_cons (pv 1) (pa_cons (pv 2) pa_nil))))
      (pss_one (ps_ret (pe_and (pe_cmpR op_eq (pe_mt (ok_Room_beside T) hr (by decide) (pv 0) (pa_cons (pv 1) (pa_cons (pv 2) pa_nil))) pe_int (nomark _)) (pe_and (pe_cmpR op_ge (pv 3) pe_int (nomark _)) (pe_one (pe_cmpR op_le (pv 3) (pe_op op_mulW (pe_mt (ok_Room_size T) hr (by decide) (pv 0) (pa_cons (pv 1) pa_nil)) (pe_ix ix_tup (pv 2) pe_int (fun _ _ => rfl))) (nomark _)))))))), ?_⟩)
  · obtain ⟨a, p, r, i, q, rfl, _⟩ := h
    rfl
  · obtain ⟨a, p, r, i, q, rfl, hR, hp, bq, k⟩ := h
    obtain ⟨b1, b2, b3, b4⟩ := id bq
    have bs := bd_size hR.rw_ i
    walk_at "d"
    repeat walk_at "s"
    refine ⟨a, p, r, i, q, rfl, hR, hp, bq, fun H1 S1 => ?_⟩
    have hR1 := hR.same S1
    have hp1 := S1.tup hp
    repeat walk_at "s"
    refine ⟨a, p, r, i, q, rfl, hR1, hp1, bq, fun H2 S2 => ?_⟩
    have S2 := S1.trans S2
    have hR2 := hR.same S2
    have hp2 := S2.tup hp
    repeat walk_at "s"
    refine r_iteB (fun c1 => ?_) fun c1 => ?_
    · repeat walk_at "s"
      refine r_iteB (fun c2 => ?_) fun c2 => ?_
      · repeat walk_at "s"
        refine ⟨a, r, i, rfl, hR2, fun H3 S3 => ?_⟩
        have S3 := S2.trans S3
        have hp3 := S3.tup hp
        repeat walk_at "s"
        have e : iOn r i q = decide (iAlong r i q ≤ iSize r i * q.w) := by
          unfold iOn
          rw [c1, c2]
          rfl
        have k3 := k _ S3
        rw [e] at k3
        exact k3
      · have e : iOn r i q = false := by
          unfold iOn
          rw [c1, c2]
          rfl
        have k3 := k _ S2
        rw [e] at k3
        exact k3
    · have e : iOn r i q = false := by
        unfold iOn
        rw [c1]
        rfl
      have k3 := k _ S2
      rw [e] at k3
      exact k3
theorem ok_Room_turns (T : Tx K mg base) : Met P w K mg base 5 (He.ga K "Room") "turns" (spOn K iTurns) [] := by
  refine mkM T.f_Room_turns T.k_Room T.t_Room_turns sc_Room_turns (fun _ _ _ _ _ _ us hl => match us, hl with | [_, _, _], _ => rfl) (fun vs H Q E h => ?_) (fun f cdv A outer s H vs Q E hr h => ⟨_, (pss_cons (ps_set (i := 3) sc_Room_turns.nd rfl (Or.inl rfl) (pe_cmpR op_gt (pe_op op_mulW (pe_ix ix_tup (pe_mt (ok_Room_corner T) hr (by decide) (pv 0) (pa_cons (pv 1) pa_nil)) pe_int (fun _ _ => rfl)) (pe_ix ix_tup (pv 2) pe_int (fun _ _ => rfl))) (pe_ix ix_tup (pv 2) pe_int (fun _ _ => rfl)) (nomark _)))
      (pss_cons (ps_set (i := 4) sc_Room_turns.nd rfl (Or.inl rfl) (pe_cmpR op_gt (pe_op op_mulW (pe_ix ix_tup (pe_mt (ok_Room_corner T) hr (by decide) (pv 0) (pa_cons (pe_op op_add (pv 1) pe_int) pa_nil)) pe_int (fun _ _ => rfl)) (pe_ix ix_tup (pv 2) pe_int (fun _ _ => rfl))) (pe_ix ix_tup (pv 2) pe_int (fun _ _ => rfl)) (nomark _)))
      (pss_one (ps_ret (pe_and (pe_cmpR op_ne (pv 3) (pv 4) (nomark _)) (pe_one (pe_cmpR op_eq (pe_cmpR op_gt (pe_mt (ok_Room_beside T) hr (by decide) (pv 0) (pa_cons (pv 1) (pa_cons (pv 2) pa_nil))) pe_int (nomark _)) (pv 4) (nomark _)))))))), ?_⟩)
  · obtain ⟨a, p, r, i, q, rfl, _⟩ := h
    rfl
  · obtain ⟨a, p, r, i, q, rfl, hR, hp, bq, k⟩ := h
    obtain ⟨b1, b2, b3, b4⟩ := id bq
    have by1 := hR.rw_.by_ i
    have by2 := hR.rw_.by_ (i + 1)
    walk_at "d"
    repeat walk_at "s"
    refine ⟨a, r, i, rfl, hR, fun c hc => ?_⟩
    repeat walk_at "s"
    refine ⟨a, r, i + 1, by simp, hR, fun d hd => ?_⟩
    repeat walk_at "s"
    refine r_iteB (fun c1 => ?_) fun c1 => ?_
    · repeat walk_at "s"
      refine ⟨a, p, r, i, q, rfl, hR, hp, bq, fun H1 S1 => ?_⟩
      repeat walk_at "s"
      have e : iTurns r i q = decide (decide (0 < iBeside r i q) = iLow r (i + 1) q) := by
        unfold iTurns
        show ((!decide (iLow r i q = iLow r (i + 1) q)) && _) = _
        rw [show (!decide (iLow r i q = iLow r (i + 1) q)) = true from c1]
        rfl
      have k3 := k _ S1
      rw [e] at k3
      exact k3
    · have e : iTurns r i q = false := by
        unfold iTurns
        rw [show (!decide (iLow r i q = iLow r (i + 1) q)) = false from c1]
        rfl
      have k3 := k _ (Same.refl H)
      rw [e] at k3
      exact k3
end
end Rt
set_option Elab.async false
set_option linter.all false
set_option maxRecDepth 100000
set_option maxHeartbeats 4000000
namespace Rt
open PySem PySem.Spec PyProof.Rows L2
open C8 (Cal Met Mak pe_c pe_mk pe_mt pe_mt0 pe_gc)
local macro_rules | `(tactic| walk_at "bd") => `(tactic| first
  | assumption | exact Bd.sub (by walk_at "bd") (by walk_at "bd") | exact Bd.add (by walk_at "bd") (by walk_at "bd") | exact Bd.mul (by walk_at "bd") (by walk_at "bd") | exact Bd.neg (by walk_at "bd") | exact Bd.lit (by decide))
local macro_rules | `(tactic| walk_at "r") => `(tactic| with_reducible first
  | refine r_seq ?_ | refine r_ret ?_ | refine r_asg ?_ | refine r_drop ?_ | refine r_op ?_ | refine r_un ?_ | refine r_c ?_ | refine r_cons ?_ | refine r_nil ?_ | refine r_i0 ?_ | refine r_U ?_ | refine r_name ?_ | refine r_if ?_ | refine r_test ?_ | refine r_tB ?_ | refine r_bl ?_
  | refine r_call ?_ | refine r_meth ?_ | refine r_fld ?_ | refine r_tup ?_ | refine r_lst ?_ | refine r_cb ?_ | refine r_andV ?_ | refine r_orV ?_ | refine r_notV ?_ | refine r_and ?_ | refine r_or ?_ | refine r_not ?_ | refine r_eqI ?_ | refine r_neI ?_ | refine r_eqB ?_ | refine r_neB ?_
  | refine r_next ?_ | refine r_lc ?_ | refine r_yes ?_ | refine r_iList ?_ | refine r_iRng1 ?_ | refine r_lstRg ?_ | refine r_rg1 ?_ | refine r_gcons ?_ | refine r_gnil ?_ | refine r_var (by with_unfolding_all rfl) ?_)
local macro_rules | `(tactic| walk_at "s") => `(tactic| first
  | walk_at "r" | (with_reducible refine r_ixT (by assumption) (by with_unfolding_all rfl) ?_) | ((with_reducible refine r_iM ?_ ?_); exact bd_mul (by walk_at "bd") (by walk_at "bd") (by decide)) | (with_reducible refine r_gtup (by assumption) (by with_unfolding_all rfl) ?_) | refine RoomAt.meth (by assumption) ?_)
local macro_rules | `(tactic| walk_at "d") => `(tactic| dsimp only [cxOf, Cx.nox, Cx.wish])

/-! ### comprehensions whose block leaves all as it was -/
section
variable {K : PySem.W.Frag} {a D : Addr} {xs : List V} {g : TG} {tt : TT} {te : TE} {vs : List Nat} {σ : L2.St} {H1 : Hp} {Qd : Hp → Prop}
theorem take_more {α : Type} : ∀ {l : List α} {i : Nat} {x : α}, l[i]? = some x → l.take (i + 1) = l.take i ++ [x]
  | [], i, x, h => by simp at h
  | a :: l, 0, x, h => by
    have e : a = x := Option.some.inj h
    subst e
    rfl
  | a :: l, i + 1, x, h => by
    have ih := take_more (l := l) (i := i) (x := x) h
    show a :: l.take (i + 1) = a :: l.take i ++ [x]
    rw [ih]
    rfl
theorem same_but {H H' : Hp} {D : Addr} {o : HO} (hn : H D = none) (e : Same H H') : Same H (upd H' D o) := fun b u q => by
  rw [upd_ne (ne_of_none q hn)]
  exact e b u q
/-- what the block of a comprehension has made -/
def Made (R : V → V → Hp → Prop) (p : V → Bool) (H1 : Hp) (D : Addr) (xs : List V) (i : Nat) (H : Hp) : Prop := Same H1 H ∧ ∃ acc, H D = some (.lst acc) ∧ Paired (fun x y => R x y H) ((xs.take i).filter p) acc
theorem made_no {R : V → V → Hp → Prop} {p : V → Bool} {i : Nat} {x : V} {H H' : Hp} (stab : ∀ x y H H', Same H H' → R x y H → R x y H') (hx : xs[i]? = some x) (m : Made R p H1 D xs i H) (hp : p x = false) (s : Same H H') : Made R p H1 D xs (i + 1) H' := by
  obtain ⟨s1, acc, e, r⟩ := m
  refine ⟨s1.trans s, acc, s _ _ e, ?_⟩
  rw [take_more hx, List.filter_append, List.filter_cons_of_neg (by rw [hp]; decide), List.filter_nil, List.append_nil]
  exact Paired.mono (fun a b q => stab a b H H' s q) r
theorem made_yes {R : V → V → Hp → Prop} {p : V → Bool} {i : Nat} {x y : V} {H H' : Hp} (stab : ∀ x y H H', Same H H' → R x y H → R x y H') (stabD : ∀ x y H D l l', H D = some (.lst l) → R x y H → R x y (upd H D (.lst l'))) (hn : H1 D = none) (hx : xs[i]? = some x) (hz : xs.length ≤ 1000000) (m : Made R p H1 D xs i H) (hp : p x = true) (s : Same H H') (hy : R x y H') :
    ∃ acc, H' D = some (.lst acc) ∧ acc.length < sizeLine ∧ Made R p H1 D xs (i + 1) (upd H' D (.lst (acc ++ [y]))) := by
  obtain ⟨s1, acc, e, r⟩ := m
  have hl := Paired.length r
  refine ⟨acc, s _ _ e, ?_, same_but hn (s1.trans s), acc ++ [y], upd_same, ?_⟩
  · have h1 : ((xs.take i).filter p).length ≤ xs.length := Nat.le_trans (List.length_filter_le _ _) (List.length_take_le' _ _)
    have : acc.length ≤ 1000000 := by omega
    exact Nat.lt_of_le_of_lt this (by decide)
  · rw [take_more hx, List.filter_append, List.filter_cons_of_pos hp, List.filter_nil]
    refine Paired.snoc (Paired.mono (fun a b q => stabD a b H' D acc _ (s _ _ e) (stab a b H H' s q)) r) (stabD _ _ _ _ _ _ (s _ _ e) hy)
theorem lcList {R : V → V → Hp → Prop} {p : V → Bool} (stab : ∀ x y H H', Same H H' → R x y H → R x y H') (stabD : ∀ x y H D l l', H D = some (.lst l) → R x y H → R x y (upd H D (.lst l'))) (hn : H1 D = none) (ha : SqL K H1 a xs) (hz : xs.length ≤ 1000000)
    (hs : ∀ (i : Nat) x H (G : V → Hp → Prop) (F : Hp → Prop), xs[i]? = some x → Same H1 H → (p x = false → ∀ H', Same H H' → F H') → (p x = true → ∀ y H', Same H H' → R x y H' → G y H') →
      g x (wipe σ vs) H fun σ2 H2 => wipe σ2 vs = wipe σ vs ∧ tt σ2 H2 fun b H3 => if b = true then te σ2 H3 G else F H3)
    (hd : ∀ H acc, Same H1 H → H D = some (.lst acc) → Paired (fun x y => R x y H) (xs.filter p) acc → Qd H) :
    ∃ W : Nat → Nat → Hp → Prop, (∃ m, W 0 m (upd H1 D (.lst []))) ∧ ∀ i m H, W i m H →
      ((Itl K a).stop i H ∧ Qd H) ∨ ((Itl K a).go i H ∧ ∃ Nx : Hp → Prop, (∀ H', Nx H' → ∃ m', m' < m ∧ W (i + 1) m' H') ∧ ∀ x H', (Itl K a).yld i H x H' → g x (wipe σ vs) H' fun σ2 H2 => wipe σ2 vs = wipe σ vs ∧ tt σ2 H2 fun b H3 =>
        if b = true then te σ2 H3 fun y H4 => ∃ acc, H4 D = some (.lst acc) ∧ acc.length < sizeLine ∧ Nx (upd H4 D (.lst (acc ++ [y]))) else Nx H3) := by
  refine lc_list (K := K) (a := a) (xs := xs) (Made R p H1 D xs) ⟨same_but hn (Same.refl H1), [], upd_same, .nil⟩ (fun i H _ m => m.1.seq ha) (fun i x H hx m => ?_) (fun H m => ?_)
  · exact hs i x H _ _ hx m.1 (fun hp H' s => made_no stab hx m hp s) (fun hp y H' s hy => made_yes stab stabD hn hx hz m hp s hy)
  · obtain ⟨s, acc, e, r⟩ := m
    rw [List.take_length] at r
    exact hd H acc s e r
/-- values that are told by the item alone -/
theorem lcListV {f : V → V} {p : V → Bool} (hn : H1 D = none) (ha : SqL K H1 a xs) (hz : xs.length ≤ 1000000)
    (hs : ∀ (i : Nat) x H (G : V → Hp → Prop) (F : Hp → Prop), xs[i]? = some x → Same H1 H → (p x = false → ∀ H', Same H H' → F H') → (p x = true → ∀ H', Same H H' → G (f x) H') →
      g x (wipe σ vs) H fun σ2 H2 => wipe σ2 vs = wipe σ vs ∧ tt σ2 H2 fun b H3 => if b = true then te σ2 H3 G else F H3)
    (hd : ∀ H, Same H1 H → H D = some (.lst ((xs.filter p).map f)) → Qd H) :
    ∃ W : Nat → Nat → Hp → Prop, (∃ m, W 0 m (upd H1 D (.lst []))) ∧ ∀ i m H, W i m H →
      ((Itl K a).stop i H ∧ Qd H) ∨ ((Itl K a).go i H ∧ ∃ Nx : Hp → Prop, (∀ H', Nx H' → ∃ m', m' < m ∧ W (i + 1) m' H') ∧ ∀ x H', (Itl K a).yld i H x H' → g x (wipe σ vs) H' fun σ2 H2 => wipe σ2 vs = wipe σ vs ∧ tt σ2 H2 fun b H3 =>
        if b = true then te σ2 H3 fun y H4 => ∃ acc, H4 D = some (.lst acc) ∧ acc.length < sizeLine ∧ Nx (upd H4 D (.lst (acc ++ [y]))) else Nx H3) := by
  refine lcList (R := fun x y _ => y = f x) (p := p) (fun _ _ _ _ _ h => h) (fun _ _ _ _ _ _ _ h => h) hn ha hz (fun i x H G F hx s h1 h2 => hs i x H G F hx s h1 fun hp H' s' => h2 hp (f x) H' s' rfl) fun H acc s e r => hd H s ?_
  have key : ∀ {l acc : List V}, Paired (fun x y => y = f x) l acc → acc = l.map f := by
    intro l acc r
    induction r with
    | nil => rfl
    | cons q _ ih => rw [q, ih]; rfl
  rw [e, key r]
/-- the items of a range -/
def rgL (lo : Int) (n : Nat) : List V := (List.range n).map fun i => V.int (lo + (i : Nat))
theorem rgL_at {lo : Int} {n i : Nat} (h : i < n) : (rgL lo n)[i]? = some (.int (lo + (i : Nat))) := by
  unfold rgL
  rw [List.getElem?_map, List.getElem?_range h]
  rfl
theorem lcRange {lo : Int} {n : Nat} {R : V → V → Hp → Prop} {p : V → Bool} (stab : ∀ x y H H', Same H H' → R x y H → R x y H') (stabD : ∀ x y H D l l', H D = some (.lst l) → R x y H → R x y (upd H D (.lst l'))) (hn : H1 D = none) (hz : n ≤ 1000000)
    (hs : ∀ (i : Nat) H (G : V → Hp → Prop) (F : Hp → Prop), i < n → Same H1 H → (p (.int (lo + i)) = false → ∀ H', Same H H' → F H') → (p (.int (lo + i)) = true → ∀ y H', Same H H' → R (.int (lo + i)) y H' → G y H') →
      g (.int (lo + i)) (wipe σ vs) H fun σ2 H2 => wipe σ2 vs = wipe σ vs ∧ tt σ2 H2 fun b H3 => if b = true then te σ2 H3 G else F H3)
    (hd : ∀ H acc, Same H1 H → H D = some (.lst acc) → Paired (fun x y => R x y H) ((rgL lo n).filter p) acc → Qd H) :
    ∃ W : Nat → Nat → Hp → Prop, (∃ m, W 0 m (upd H1 D (.lst []))) ∧ ∀ i m H, W i m H →
      ((Itr lo n).stop i H ∧ Qd H) ∨ ((Itr lo n).go i H ∧ ∃ Nx : Hp → Prop, (∀ H', Nx H' → ∃ m', m' < m ∧ W (i + 1) m' H') ∧ ∀ x H', (Itr lo n).yld i H x H' → g x (wipe σ vs) H' fun σ2 H2 => wipe σ2 vs = wipe σ vs ∧ tt σ2 H2 fun b H3 =>
        if b = true then te σ2 H3 fun y H4 => ∃ acc, H4 D = some (.lst acc) ∧ acc.length < sizeLine ∧ Nx (upd H4 D (.lst (acc ++ [y]))) else Nx H3) := by
  have hlen : (rgL lo n).length = n := by unfold rgL; simp
  refine lc_range (lo := lo) (n := n) (Made R p H1 D (rgL lo n)) ⟨same_but hn (Same.refl H1), [], upd_same, .nil⟩ (fun i H hi m => ?_) (fun H m => ?_)
  · exact hs i H _ _ hi m.1 (fun hp H' s => made_no stab (rgL_at hi) m hp s) (fun hp y H' s hy => made_yes stab stabD hn (rgL_at hi) (by rw [hlen]; exact hz) m hp s hy)
  · obtain ⟨s, acc, e, r⟩ := m
    rw [show (rgL lo n).take n = rgL lo n from List.take_of_length_le (by omega)] at r
    exact hd H acc s e r
theorem lcRangeV {lo : Int} {n : Nat} {f : V → V} {p : V → Bool} (hn : H1 D = none) (hz : n ≤ 1000000)
    (hs : ∀ (i : Nat) H (G : V → Hp → Prop) (F : Hp → Prop), i < n → Same H1 H → (p (.int (lo + i)) = false → ∀ H', Same H H' → F H') → (p (.int (lo + i)) = true → ∀ H', Same H H' → G (f (.int (lo + i))) H') →
      g (.int (lo + i)) (wipe σ vs) H fun σ2 H2 => wipe σ2 vs = wipe σ vs ∧ tt σ2 H2 fun b H3 => if b = true then te σ2 H3 G else F H3)
    (hd : ∀ H, Same H1 H → H D = some (.lst (((rgL lo n).filter p).map f)) → Qd H) :
    ∃ W : Nat → Nat → Hp → Prop, (∃ m, W 0 m (upd H1 D (.lst []))) ∧ ∀ i m H, W i m H →
      ((Itr lo n).stop i H ∧ Qd H) ∨ ((Itr lo n).go i H ∧ ∃ Nx : Hp → Prop, (∀ H', Nx H' → ∃ m', m' < m ∧ W (i + 1) m' H') ∧ ∀ x H', (Itr lo n).yld i H x H' → g x (wipe σ vs) H' fun σ2 H2 => wipe σ2 vs = wipe σ vs ∧ tt σ2 H2 fun b H3 =>
        if b = true then te σ2 H3 fun y H4 => ∃ acc, H4 D = some (.lst acc) ∧ acc.length < sizeLine ∧ Nx (upd H4 D (.lst (acc ++ [y]))) else Nx H3) := by
  refine lcRange (R := fun x y _ => y = f x) (p := p) (fun _ _ _ _ _ h => h) (fun _ _ _ _ _ _ _ h => h) hn hz (fun i H G F hi s h1 h2 => hs i H G F hi s h1 fun hp H' s' => h2 hp _ H' s' rfl) fun H acc s e r => hd H s ?_
  have key : ∀ {l acc : List V}, Paired (fun x y => y = f x) l acc → acc = l.map f := by
    intro l acc r
    induction r with
    | nil => rfl
    | cons q _ ih => rw [q, ih]; rfl
  rw [e, key r]
end
section
variable {P : Program} {w : World} {K : PySem.W.Frag} {mg : Str → Option Value} {base : Heap}
def natV : V → Nat
  | .int i => i.toNat
  | _ => 0
theorem rg_bl (f : Nat → Bool) (n : Nat) : ((rgL 0 n).filter fun _ => true).map (fun x => V.bl (f (natV x))) = ((List.range n).map f).map V.bl := by
  rw [List.filter_eq_self.mpr fun _ _ => rfl]
  unfold rgL
  rw [List.map_map, List.map_map]
  refine List.map_congr_left fun i _ => ?_
  show V.bl (f ((0 + (i : Int)).toNat)) = V.bl (f i)
  rw [Int.zero_add, Int.toNat_natCast]
theorem rg_filter (f : Nat → Bool) (n : Nat) : (((rgL 0 n).filter fun x => f (natV x)).map fun x => x).length = ((List.range n).filter f).length := by
  unfold rgL
  rw [List.map_id'', List.filter_map, List.length_map]
  · refine congrArg List.length (List.filter_congr fun i _ => ?_)
    show f ((0 + (i : Int)).toNat) = f i
    rw [Int.zero_add, Int.toNat_natCast]
  · exact fun _ => rfl
theorem rg_get {n i : Nat} {x : V} (h : (rgL 0 n)[i]? = some x) : i < n ∧ x = .int (i : Nat) := by
  have hl : i < n := by
    have := (List.getElem?_eq_some_iff.mp h).1
    unfold rgL at this
    simpa using this
  rw [rgL_at hl] at h
  refine ⟨hl, ?_⟩
  rw [← Option.some.inj h, Int.zero_add]
theorem rg_len (lo : Int) (n : Nat) : (rgL lo n).length = n := by
  unfold rgL
  simp
theorem r_lc {wi : TI} {g : TG} {tt : TT} {te : TE} {vs : List Nat} {σ : L2.St} {H : Hp} {Q : VK} (h : wi σ H fun J H1 => ∀ D, H1 D = none → ∃ W : Nat → Nat → Hp → Prop, (∃ m, W 0 m (upd H1 D (.lst []))) ∧ ∀ i m H, W i m H →
  (J.stop i H ∧ Q (.ref D) H) ∨ (J.go i H ∧ ∃ Nx : Hp → Prop, (∀ H', Nx H' → ∃ m', m' < m ∧ W (i + 1) m' H') ∧ ∀ x H', J.yld i H x H' → g x (wipe σ vs) H' fun σ2 H2 => wipe σ2 vs = wipe σ vs ∧ tt σ2 H2 fun b H3 =>
    if b = true then te σ2 H3 fun y H4 => ∃ acc, H4 D = some (.lst acc) ∧ acc.length < sizeLine ∧ Nx (upd H4 D (.lst (acc ++ [y]))) else Nx H3)) : tLc wi g tt te vs σ H Q := h
theorem r_yes {σ : L2.St} {H : Hp} {Q : Bool → Hp → Prop} (h : Q true H) : tYes σ H Q := h
theorem r_iList {tl : TE} {σ : L2.St} {H : Hp} {R : It → Hp → Prop} (h : tl σ H fun x H1 => ∃ a, x = .ref a ∧ (∃ xs, SqL K H1 a xs) ∧ R (Itl K a) H1) : iList K tl σ H R := h
theorem r_iRng1 {ta : TA} {σ : L2.St} {H : Hp} {R : It → Hp → Prop} (h : ta σ H fun vs H1 => ∃ j : Int, vs = [.int j] ∧ -(2 ^ 62) ≤ j ∧ j < 2 ^ 62 ∧ R (Itr 0 j.toNat) H1) : iRng1 ta σ H R := h
theorem r_lstRg {te : L2.St → Hp → (Int → Int → Hp → Prop) → Prop} {σ : L2.St} {H : Hp} {Q : VK} (h : te σ H fun a b H1 => RgOk a b ∧ ∀ q, H1 q = none → Q (.ref q) (upd H1 q (.lst (rgV a b)))) : tLstRg te σ H Q := h
theorem r_rg1 {ta : TE} {σ : L2.St} {H : Hp} {R : Int → Int → Hp → Prop} (h : ta σ H fun x H1 => ∃ j, x = .int j ∧ R 0 j H1) : tRg1 ta σ H R := h
theorem r_itT {b : Bool} {A B : Prop} (e : b = true) (h : A) : if b = true then A else B := by
  rw [if_pos e]
  exact h
theorem r_itF {b : Bool} {A B : Prop} (e : b = false) (h : B) : if b = true then A else B := by
  rw [e, if_neg Bool.false_ne_true]
  exact h
theorem rgV_rgL (n : Nat) : rgV 0 (n : Int) = rgL 0 n := by
  unfold rgV rgL
  rw [show ((n : Int) - 0).toNat = n by omega]
end
end Rt
set_option Elab.async false
set_option linter.all false
set_option maxRecDepth 100000
set_option maxHeartbeats 4000000
namespace Rt
open PySem PySem.Spec PyProof.Rows L2
open C8 (Cal Met Mak pe_c pe_mk pe_mt pe_mt0 pe_gc)
local macro_rules | `(tactic| walk_at "bd") => `(tactic| first
  | assumption | exact Bd.sub (by walk_at "bd") (by walk_at "bd") | exact Bd.add (by walk_at "bd") (by walk_at "bd") | exact Bd.mul (by walk_at "bd") (by walk_at "bd") | exact Bd.neg (by walk_at "bd") | exact Bd.lit (by decide))
local macro_rules | `(tactic| walk_at "r") => `(tactic| with_reducible first
  | refine r_seq ?_ | refine r_ret ?_ | refine r_asg ?_ | refine r_drop ?_ | refine r_op ?_ | refine r_un ?_ | refine r_c ?_ | refine r_cons ?_ | refine r_nil ?_ | refine r_i0 ?_ | refine r_U ?_ | refine r_name ?_ | refine r_if ?_ | refine r_test ?_ | refine r_tB ?_ | refine r_bl ?_
  | refine r_call ?_ | refine r_meth ?_ | refine r_fld ?_ | refine r_tup ?_ | refine r_lst ?_ | refine r_cb ?_ | refine r_andV ?_ | refine r_orV ?_ | refine r_notV ?_ | refine r_and ?_ | refine r_or ?_ | refine r_not ?_ | refine r_eqI ?_ | refine r_neI ?_ | refine r_eqB ?_ | refine r_neB ?_
  | refine r_next ?_ | refine r_lc ?_ | refine r_yes ?_ | refine r_iList ?_ | refine r_iRng1 ?_ | refine r_lstRg ?_ | refine r_rg1 ?_ | refine r_gcons ?_ | refine r_gnil ?_ | refine r_var (by with_unfolding_all rfl) ?_)
local macro_rules | `(tactic| walk_at "s") => `(tactic| first
  | walk_at "r" | (with_reducible refine r_ixT (by assumption) (by with_unfolding_all rfl) ?_) | ((with_reducible refine r_iM ?_ ?_); exact bd_mul (by walk_at "bd") (by walk_at "bd") (by decide)) | (with_reducible refine r_gtup (by assumption) (by with_unfolding_all rfl) ?_) | refine RoomAt.meth (by assumption) ?_)
local macro_rules | `(tactic| walk_at "d") => `(tactic| dsimp only [cxOf, Cx.nox, Cx.wish])

section
variable {P : Program} {w : World} {K : PySem.W.Frag} {mg : Str → Option Value} {base : Heap}
def spWithin (K : PySem.W.Frag) (f : Eh.Room → Q4 → Bool) : Sp := fun vs H Q _ => ∃ (a p : Addr) (r : Eh.Room) (q : Q4), vs = [.ref a, .ref p] ∧ RoomAt K H a r ∧ P4 K H p q ∧ B4 4000 q ∧ ∀ H', Same H H' → Q (.bl (f r q)) H'
theorem ok_Room_is_within (T : Tx K mg base) : Met P w K mg base 6 (He.ga K "Room") "is_within" (spWithin K iWithin) [] := by
  refine mkM T.f_Room_is_within T.k_Room T.t_Room_is_within sc_Room_is_within (fun _ _ _ _ _ _ us hl => match us, hl with | [_, _], _ => rfl) (fun vs H Q E h => ?_) (fun f cdv A outer s H vs Q E hr h => ⟨_, (pss_cons (ps_set (i := 2) sc_Room_is_within.nd rfl (Or.inl rfl) (pe_listRg rfl (by rfl) T.n_list (prg_1 (by rfl) T.n_range (pe_mt0 (ok_Room_many T) hr (by decide) (pv 0)))))
      (pss_cons (ps_if (pt_val (pe_callB (cr_any rfl) (by rfl) T.n_any (by decide +kernel) (pa_cons (pe_lc (own := [("i", 3)]) rfl sc_Room_is_within.nd (pi_list (pv 2)) (blkOk_by (own := [("i", 3)]) (N := ["self", "point", "lines", "i"]) (sc := defScope s_Room_is_within) (by decide +kernel)) (fun _ _ _ _ _ => (pg_name (i := 3) sc_Room_is_within.nd rfl (Or.inl rfl))) (fun _ _ _ _ _ => pts_nil) (fun _ _ _ _ _ => (pe_mt (ok_Room_is_on T) hr (by decide) (pv 0) (pa_cons (pv 3) (pa_cons (pv 1) pa_nil))))) pa_nil))) (pss_one (ps_ret pe_bl)) pss_nil)
      (pss_one (ps_ret (pe_cmpR op_eq (pe_op op_mod (pe_callB call_len_seq (by rfl) T.n_len PySem.boot_len (pa_cons (pe_lc (own := [("i", 3)]) rfl sc_Room_is_within.nd (pi_list (pv 2)) (blkOk_by (own := [("i", 3)]) (N := ["self", "point", "lines", "i"]) (sc := defScope s_Room_is_within) (by decide +kernel)) (fun _ _ _ _ _ => (pg_name (i := 3) sc_Room_is_within.nd rfl (Or.inl rfl))) (fun _ _ _ _ _ => (pts_one (pt_val (pe_mt (ok_Room_turns T) hr (by decide) (pv 0) (pa_cons (pv 3) (pa_cons (pv 1) pa_nil)))))) (fun _ _ _ _ _ => (pv 3))) pa_nil)) pe_int) pe_int (nomark _)))))), ?_⟩)
  · obtain ⟨a, p, r, q, rfl, _⟩ := h
    rfl
  · obtain ⟨a, p, r, q, rfl, hR, hp, bq, k⟩ := h
    have R := hR.rw_
    have n3 := R.n3
    have n64 := R.n64
    walk_at "d"
    repeat walk_at "s"
    refine ⟨a, r, rfl, hR, ?_⟩
    refine ⟨_, rfl, ⟨by decide, by decide, by omega, by omega, by omega⟩, fun l hl => ?_⟩
    rw [rgV_rgL]
    have S1 := same_new (o := .lst (rgL 0 r.n)) hl
    have hL : SqL K (upd H l (.lst (rgL 0 r.n))) l (rgL 0 r.n) := SqL.of upd_same
    have hz : (rgL 0 r.n).length ≤ 1000000 := by rw [rg_len]; omega
    generalize upd H l (.lst (rgL 0 r.n)) = H1 at S1 hL ⊢
    repeat walk_at "s"
    refine ⟨_, rfl, ⟨_, hL⟩, fun D hD => ?_⟩
    refine lcListV (f := fun x => .bl (iOn r (natV x) q)) (p := fun _ => true) hD hL hz (fun i x H2 G F hx S h1 h2 => ?_) (fun H2 S e => ?_)
    · obtain ⟨hi, ex⟩ := rg_get hx
      subst ex
      refine ⟨rfl, ?_⟩
      refine r_yes ?_
      refine r_itT rfl ?_
      have S2 := S1.trans S
      have hR2 := hR.same S2
      repeat walk_at "s"
      refine ⟨a, p, r, i, q, rfl, hR2, S2.tup hp, bq, fun H3 S3 => ?_⟩
      exact h2 rfl H3 S3
    · rw [rg_bl fun i => iOn r i q] at e
      have S2 := S1.trans S
      have hL2 := S.seq hL
      have hR2 := hR.same S2
      repeat walk_at "s"
      refine ⟨_, _, rfl, SqL.of e, ?_⟩
      repeat walk_at "s"
      have ea : ((List.range r.n).map fun i => iOn r i q).any id = (List.range r.n).any fun i => iOn r i q := by
        rw [List.any_map]
        rfl
      rw [ea]
      refine r_iteB (fun c => ?_) fun c => ?_
      · repeat walk_at "s"
        have e2 : iWithin r q = false := by
          unfold iWithin
          rw [c]
          rfl
        have k2 := k _ S2
        rw [e2] at k2
        exact k2
      · repeat walk_at "s"
        refine ⟨_, rfl, ⟨_, hL2⟩, fun D2 hD2 => ?_⟩
        refine lcListV (f := fun x => x) (p := fun x => iTurns r (natV x) q) hD2 hL2 hz (fun i x H3 G F hx S3 h1 h2 => ?_) (fun H3 S3 e => ?_)
        · obtain ⟨hi, ex⟩ := rg_get hx
          subst ex
          refine ⟨rfl, ?_⟩
          have S4 := S2.trans S3
          have hR4 := hR.same S4
          repeat walk_at "s"
          refine ⟨a, p, r, i, q, rfl, hR4, S4.tup hp, bq, fun H5 S5 => ?_⟩
          repeat walk_at "s"
          refine r_iteB (fun c2 => ?_) fun c2 => ?_
          · repeat walk_at "s"
            exact h2 c2 _ S5
          · exact h1 c2 _ S5
        · repeat walk_at "s"
          refine ⟨_, _, rfl, .inl (SqL.of e), ?_⟩
          rw [rg_filter fun i => iTurns r i q]
          repeat walk_at "s"
          refine r_iC (by decide) ?_
          repeat walk_at "s"
          have e2 : iWithin r q = decide ((((List.range r.n).filter fun i => iTurns r i q).length : Int) % 2 = 1) := by
            unfold iWithin
            rw [c]
            show decide (((List.range r.n).filter fun i => iTurns r i q).length % 2 = 1) = _
            generalize ((List.range r.n).filter fun i => iTurns r i q).length = m
            by_cases z : m % 2 = 1
            · rw [decide_eq_true z, decide_eq_true (by omega)]
            · rw [decide_eq_false z, decide_eq_false (by omega)]
          have k2 := k _ (S2.trans S3)
          rw [e2] at k2
          exact k2
end
end Rt
set_option Elab.async false
set_option linter.all false
set_option maxRecDepth 100000
set_option maxHeartbeats 4000000
namespace Rt
open PySem PySem.Spec PyProof.Rows L2
open C8 (Cal Met Mak pe_c pe_mk pe_mt pe_mt0 pe_gc)
local macro_rules | `(tactic| walk_at "bd") => `(tactic| first
  | assumption | exact Bd.sub (by walk_at "bd") (by walk_at "bd") | exact Bd.add (by walk_at "bd") (by walk_at "bd") | exact Bd.mul (by walk_at "bd") (by walk_at "bd") | exact Bd.neg (by walk_at "bd") | exact Bd.lit (by decide))
local macro_rules | `(tactic| walk_at "r") => `(tactic| with_reducible first
  | refine r_seq ?_ | refine r_ret ?_ | refine r_asg ?_ | refine r_drop ?_ | refine r_op ?_ | refine r_un ?_ | refine r_c ?_ | refine r_cons ?_ | refine r_nil ?_ | refine r_i0 ?_ | refine r_U ?_ | refine r_name ?_ | refine r_if ?_ | refine r_test ?_ | refine r_tB ?_ | refine r_bl ?_
  | refine r_call ?_ | refine r_meth ?_ | refine r_fld ?_ | refine r_tup ?_ | refine r_lst ?_ | refine r_cb ?_ | refine r_andV ?_ | refine r_orV ?_ | refine r_notV ?_ | refine r_and ?_ | refine r_or ?_ | refine r_not ?_ | refine r_eqI ?_ | refine r_neI ?_ | refine r_eqB ?_ | refine r_neB ?_
  | refine r_next ?_ | refine r_lc ?_ | refine r_yes ?_ | refine r_iList ?_ | refine r_iRng1 ?_ | refine r_lstRg ?_ | refine r_rg1 ?_ | refine r_gcons ?_ | refine r_gnil ?_ | refine r_var (by with_unfolding_all rfl) ?_)
local macro_rules | `(tactic| walk_at "s") => `(tactic| first
  | walk_at "r" | (with_reducible refine r_ixT (by assumption) (by with_unfolding_all rfl) ?_) | ((with_reducible refine r_iM ?_ ?_); exact bd_mul (by walk_at "bd") (by walk_at "bd") (by decide)) | (with_reducible refine r_gtup (by assumption) (by with_unfolding_all rfl) ?_) | refine RoomAt.meth (by assumption) ?_)
local macro_rules | `(tactic| walk_at "d") => `(tactic| dsimp only [cxOf, Cx.nox, Cx.wish])

section
variable {P : Program} {w : World} {K : PySem.W.Frag} {mg : Str → Option Value} {base : Heap}
theorem RoomAt.fld {H : Hp} {a : Addr} {r : Eh.Room} (hR : RoomAt K H a r) : ∃ (dx ac as : Addr), H a = some (.ins (He.ga K "Room") dx (roomF r.h ac as)) := by
  obtain ⟨R, dx, ac, as, cps, h1, _⟩ := hR
  exact ⟨dx, ac, as, h1⟩
theorem ok_Room_has_height (T : Tx K mg base) : Met P w K mg base 1 (He.ga K "Room") "has_height" (spWithin K iHeight) [] := by
  refine mkM T.f_Room_has_height T.k_Room T.t_Room_has_height sc_Room_has_height (fun _ _ _ _ _ _ us hl => match us, hl with | [_, _], _ => rfl) (fun vs H Q E h => ?_) (fun f cdv A outer s H vs Q E hr h => ⟨_, (pss_one (ps_ret (pe_and (pe_cmpR op_gt (pe_ix ix_tup (pv 1) pe_int (fun _ _ => rfl)) pe_int (nomark _)) (pe_one (pe_cmpR op_lt (pe_ix ix_tup (pv 1) pe_int (fun _ _ => rfl)) (pe_op op_mulW (pe_fld (pv 0) rfl) (pe_ix ix_tup (pv 1) pe_int (fun _ _ => rfl))) (nomark _)))))), ?_⟩)
  · obtain ⟨a, p, r, q, rfl, _⟩ := h
    rfl
  · obtain ⟨a, p, r, q, rfl, hR, hp, ⟨b1, b2, b3, b4⟩, k⟩ := h
    have bh := hR.rw_.bh
    obtain ⟨dx, ac, as, h1⟩ := hR.fld
    walk_at "d"
    repeat walk_at "s"
    have k2 := k _ (Same.refl H)
    refine r_iteB (fun c => ?_) fun c => ?_
    · repeat walk_at "s"
      refine ⟨_, _, _, _, _, rfl, h1, T.k_Room, T.a_Room_height, lk_here, ?_⟩
      repeat walk_at "s"
      unfold iHeight at k2
      rw [c] at k2
      exact k2
    · unfold iHeight at k2
      rw [c] at k2
      exact k2
theorem ok_Room_is_inside (T : Tx K mg base) : Met P w K mg base 7 (He.ga K "Room") "is_inside" (spWithin K iInside) [] := by
  refine mkM T.f_Room_is_inside T.k_Room T.t_Room_is_inside sc_Room_is_inside (fun _ _ _ _ _ _ us hl => match us, hl with | [_, _], _ => rfl) (fun vs H Q E h => ?_) (fun f cdv A outer s H vs Q E hr h => ⟨_, (pss_one (ps_ret (pe_and (pe_mt (ok_Room_has_height T) hr (by decide) (pv 0) (pa_cons (pv 1) pa_nil)) (pe_one (pe_mt (ok_Room_is_within T) hr (by decide) (pv 0) (pa_cons (pv 1) pa_nil)))))), ?_⟩)
  · obtain ⟨a, p, r, q, rfl, _⟩ := h
    rfl
  · obtain ⟨a, p, r, q, rfl, hR, hp, bq, k⟩ := h
    walk_at "d"
    repeat walk_at "s"
    refine ⟨a, p, r, q, rfl, hR, hp, bq, fun H1 S1 => ?_⟩
    repeat walk_at "s"
    refine r_iteB (fun c => ?_) fun c => ?_
    · have hR1 := hR.same S1
      repeat walk_at "s"
      refine ⟨a, p, r, q, rfl, hR1, S1.tup hp, bq, fun H2 S2 => ?_⟩
      have k2 := k _ (S1.trans S2)
      unfold iInside at k2
      rw [c] at k2
      exact k2
    · have k2 := k _ S1
      unfold iInside at k2
      rw [c] at k2
      exact k2
def spOpen (K : PySem.W.Frag) : Sp := spOn K iOpen
theorem ok_Room_is_open (T : Tx K mg base) : Met P w K mg base 7 (He.ga K "Room") "is_open" (spOpen K) [] := by
  refine mkM T.f_Room_is_open T.k_Room T.t_Room_is_open sc_Room_is_open (fun _ _ _ _ _ _ us hl => match us, hl with | [_, _, _], _ => rfl) (fun vs H Q E h => ?_) (fun f cdv A outer s H vs Q E hr h => ⟨_, (pss_cons (ps_if (pt_cmpR op_ge (pv 1) (pe_mt0 (ok_Room_many T) hr (by decide) (pv 0)) (nomark _)) (pss_one (ps_ret (pe_mt (ok_Room_is_within T) hr (by decide) (pv 0) (pa_cons (pv 2) pa_nil)))) pss_nil)
      (pss_cons (ps_set (i := 3) sc_Room_is_open.nd rfl (Or.inl rfl) (pe_mt (ok_Room_along T) hr (by decide) (pv 0) (pa_cons (pv 1) (pa_cons (pv 2) pa_nil))))
      (pss_one (ps_ret (pe_and (pe_mt (ok_Room_has_height T) hr (by decide) (pv 0) (pa_cons (pv 2) pa_nil)) (pe_and (pe_cmpR op_gt (pv 3) pe_int (nomark _)) (pe_one (pe_cmpR op_lt (pv 3) (pe_op op_mulW (pe_mt (ok_Room_size T) hr (by decide) (pv 0) (pa_cons (pv 1) pa_nil)) (pe_ix ix_tup (pv 2) pe_int (fun _ _ => rfl))) (nomark _))))))))), ?_⟩)
  · obtain ⟨a, p, r, i, q, rfl, _⟩ := h
    rfl
  · obtain ⟨a, p, r, i, q, rfl, hR, hp, bq, k⟩ := h
    obtain ⟨b1, b2, b3, b4⟩ := id bq
    have bs := bd_size hR.rw_ i
    walk_at "d"
    repeat walk_at "s"
    refine ⟨a, r, rfl, hR, ?_⟩
    repeat walk_at "s"
    refine r_iteB (fun c => ?_) fun c => ?_
    · have le : r.n ≤ i := by have := of_decide_eq_true c; omega
      have e : iOpen r i q = iWithin r q := if_pos le
      rw [e] at k
      repeat walk_at "s"
      exact ⟨a, p, r, q, rfl, hR, hp, bq, k⟩
    · have nle : ¬ r.n ≤ i := by have := of_decide_eq_false c; omega
      have e : iOpen r i q = (iHeight r q && (decide (0 < iAlong r i q) && decide (iAlong r i q < iSize r i * q.w))) := if_neg nle
      rw [e] at k
      repeat walk_at "s"
      refine ⟨a, p, r, i, q, rfl, hR, hp, bq, fun H1 S1 => ?_⟩
      have hR1 := hR.same S1
      repeat walk_at "s"
      refine ⟨a, p, r, q, rfl, hR1, S1.tup hp, bq, fun H2 S2 => ?_⟩
      have S2 := S1.trans S2
      have hR2 := hR.same S2
      have hp2 := S2.tup hp
      repeat walk_at "s"
      refine r_iteB (fun c1 => ?_) fun c1 => ?_
      · repeat walk_at "s"
        refine r_iteB (fun c2 => ?_) fun c2 => ?_
        · repeat walk_at "s"
          refine ⟨a, r, i, rfl, hR2, fun H3 S3 => ?_⟩
          have S3 := S2.trans S3
          have hp3 := S3.tup hp
          repeat walk_at "s"
          have k3 := k _ S3
          rw [c1, c2] at k3
          exact k3
        · have k3 := k _ S2
          rw [c1, c2] at k3
          exact k3
      · have k3 := k _ S2
        rw [c1] at k3
        exact k3
def spMir (K : PySem.W.Frag) : Sp := fun vs H Q _ => ∃ (a p : Addr) (r : Eh.Room) (i : Nat) (q : Q4), vs = [.ref a, .int i, .ref p] ∧ RoomAt K H a r ∧ P4 K H p q ∧ B4 1000 q ∧ 0 < -(iDir r i).2 * -(iDir r i).2 + (iDir r i).1 * (iDir r i).1 ∧
  ∀ H' p', Same H H' → P4 K H' p' (iMir r i q) → Q (.ref p') H'
theorem ok_Room_mirrored (T : Tx K mg base) : Met P w K mg base 5 (He.ga K "Room") "mirrored" (spMir K) [] := by
  refine mkM T.f_Room_mirrored T.k_Room T.t_Room_mirrored sc_Room_mirrored (fun _ _ _ _ _ _ us hl => match us, hl with | [_, _, _], _ => rfl) (fun vs H Q E h => ?_) (fun f cdv A outer s H vs Q E hr h => ⟨_, (pss_cons (ps_asg (pv 2) (pg_tup rfl (pgs_cons (pg_name (i := 3) sc_Room_mirrored.nd rfl (Or.inl rfl)) (pgs_cons (pg_name (i := 4) sc_Room_mirrored.nd rfl (Or.inl rfl)) (pgs_cons (pg_name (i := 5) sc_Room_mirrored.nd rfl (Or.inl rfl)) (pgs_cons (pg_name (i := 6) sc_Room_mirrored.nd rfl (Or.inl rfl)) pgs_nil))))))
      (pss_cons (ps_if (pt_cmpR op_eq (pv 1) (pe_mt0 (ok_Room_many T) hr (by decide) (pv 0)) (nomark _)) (pss_one (ps_ret (pe_tup (pa_cons (pv 3) (pa_cons (pv 4) (pa_cons (pe_un un_neg (pv 5)) (pa_cons pe_int pa_nil))))))) pss_nil)
      (pss_cons (ps_if (pt_cmpR op_gt (pv 1) (pe_mt0 (ok_Room_many T) hr (by decide) (pv 0)) (nomark _)) (pss_one (ps_ret (pe_tup (pa_cons (pv 3) (pa_cons (pv 4) (pa_cons (pe_op op_sub (pe_op op_mulW pe_int (pe_fld (pv 0) rfl)) (pv 5)) (pa_cons pe_int pa_nil))))))) pss_nil)
      (pss_cons (ps_set (i := 7) sc_Room_mirrored.nd rfl (Or.inl rfl) (pe_tup (pa_cons (pe_un un_neg (pe_ix ix_tup (pe_mt (ok_Room_direction T) hr (by decide) (pv 0) (pa_cons (pv 1) pa_nil)) pe_int (fun _ _ => rfl))) (pa_cons (pe_ix ix_tup (pe_mt (ok_Room_direction T) hr (by decide) (pv 0) (pa_cons (pv 1) pa_nil)) pe_int (fun _ _ => rfl)) pa_nil))))
      (pss_cons (ps_set (i := 8) sc_Room_mirrored.nd rfl (Or.inl rfl) (pe_op op_mulW pe_int (pe_mt (ok_Room_beside T) hr (by decide) (pv 0) (pa_cons (pv 1) (pa_cons (pv 2) pa_nil)))))
      (pss_cons (ps_set (i := 9) sc_Room_mirrored.nd rfl (Or.inl rfl) (pe_op op_add (pe_op op_mulW (pe_ix ix_tup (pv 7) pe_int (fun _ _ => rfl)) (pe_ix ix_tup (pv 7) pe_int (fun _ _ => rfl))) (pe_op op_mulW (pe_ix ix_tup (pv 7) pe_int (fun _ _ => rfl)) (pe_ix ix_tup (pv 7) pe_int (fun _ _ => rfl)))))
      (pss_one (ps_ret (pe_tup (pa_cons (pe_op op_sub (pv 3) (pe_op op_fdivW (pe_op op_mulW (pv 8) (pe_ix ix_tup (pv 7) pe_int (fun _ _ => rfl))) (pv 9))) (pa_cons (pe_op op_sub (pv 4) (pe_op op_fdivW (pe_op op_mulW (pv 8) (pe_ix ix_tup (pv 7) pe_int (fun _ _ => rfl))) (pv 9))) (pa_cons (pv 5) (pa_cons pe_int pa_nil))))))))))))), ?_⟩)
  · obtain ⟨a, p, r, i, q, rfl, _⟩ := h
    rfl
  · obtain ⟨a, p, r, i, q, rfl, hR, hp, bq, hz, k⟩ := h
    obtain ⟨b1, b2, b3, b4⟩ := id bq
    have bh := hR.rw_.bh
    have bdx := hR.rw_.dx i
    have bdy := hR.rw_.dy i
    obtain ⟨dx, ac, as, h1⟩ := hR.fld
    walk_at "d"
    repeat walk_at "s"
    refine ⟨a, r, rfl, hR, ?_⟩
    repeat walk_at "s"
    refine r_iteB (fun c => ?_) fun c => ?_
    · have ie : i = r.n := by have := of_decide_eq_true c; omega
      have e : iMir r i q = ⟨q.x, q.y, -q.z, 1⟩ := if_pos ie
      rw [e] at k
      repeat walk_at "s"
      refine ⟨sz4, fun t ht => ?_⟩
      exact k _ _ (same_new ht) (SqT.of upd_same)
    · have ie : ¬ i = r.n := by have := of_decide_eq_false c; omega
      repeat walk_at "s"
      refine ⟨a, r, rfl, hR, ?_⟩
      repeat walk_at "s"
      refine r_iteB (fun c2 => ?_) fun c2 => ?_
      · have lt : r.n < i := by have := of_decide_eq_true c2; omega
        have e : iMir r i q = ⟨q.x, q.y, 2 * r.h - q.z, 1⟩ := (if_neg ie).trans (if_pos lt)
        rw [e] at k
        repeat walk_at "s"
        refine ⟨_, _, _, _, _, rfl, h1, T.k_Room, T.a_Room_height, lk_here, ?_⟩
        repeat walk_at "s"
        refine ⟨sz4, fun t ht => ?_⟩
        exact k _ _ (same_new ht) (SqT.of upd_same)
      · have nlt : ¬ r.n < i := by have := of_decide_eq_false c2; omega
        repeat walk_at "s"
        refine ⟨a, r, i, rfl, hR, fun H1 d S1 hd => ?_⟩
        have hR1 := hR.same S1
        repeat walk_at "s"
        refine ⟨a, r, i, rfl, hR1, fun H2 d2 S2 hd2 => ?_⟩
        have S2' := S1.trans S2
        repeat walk_at "s"
        refine ⟨sz2, fun t ht => ?_⟩
        have S3 := S2'.trans (same_new (o := .tup [V.int (-(iDir r i).2), V.int (iDir r i).1]) ht)
        have ht2 : SqT K (upd H2 t (.tup [V.int (-(iDir r i).2), V.int (iDir r i).1])) t [V.int (-(iDir r i).2), V.int (iDir r i).1] := SqT.of upd_same
        generalize upd H2 t (.tup [V.int (-(iDir r i).2), V.int (iDir r i).1]) = H3 at S3 ht2 ⊢
        have hR3 := hR.same S3
        repeat walk_at "s"
        refine ⟨a, p, r, i, q, rfl, hR3, S3.tup hp, bq.mono (by decide), fun H4 S4 => ?_⟩
        have ht4 := S4.tup ht2
        have S4' := S3.trans S4
        have bb : Bd 2000 (iBeside r i q) := by
          have := (Bd.sub (Bd.mul bdx (Bd.sub b2 (Bd.mul (hR.rw_.by_ i) b4))) (Bd.mul bdy (Bd.sub b1 (Bd.mul (hR.rw_.bx i) b4))))
          exact this.mono (by decide)
        have hdiv : CDivW 0 (-(iDir r i).2 * -(iDir r i).2 + (iDir r i).1 * (iDir r i).1) := wide_div (b := 64) hz ((Bd.add (Bd.mul bdy.neg bdy.neg) (Bd.mul bdx bdx)).mono (by decide)).h (by decide) (by decide)
        repeat walk_at "s"
        refine r_iC ⟨hdiv.1, hdiv.2⟩ ?_
        repeat walk_at "s"
        refine r_iC ⟨hdiv.1, hdiv.2⟩ ?_
        repeat walk_at "s"
        refine ⟨sz4, fun t2 ht2' => ?_⟩
        refine k _ _ (S4'.trans (same_new ht2')) ?_
        have e : iMir r i q = ⟨q.x - 2 * iBeside r i q * -(iDir r i).2 / (-(iDir r i).2 * -(iDir r i).2 + (iDir r i).1 * (iDir r i).1), q.y - 2 * iBeside r i q * (iDir r i).1 / (-(iDir r i).2 * -(iDir r i).2 + (iDir r i).1 * (iDir r i).1), q.z, 1⟩ := (if_neg ie).trans (if_neg nlt)
        rw [e]
        exact SqT.of upd_same
end
end Rt
set_option Elab.async false
set_option linter.all false
set_option maxRecDepth 100000
set_option maxHeartbeats 4000000
namespace Rt
open PySem PySem.Spec PyProof.Rows L2
open C8 (Cal Met Mak pe_c pe_mk pe_mt pe_mt0 pe_gc)
local macro_rules | `(tactic| walk_at "bd") => `(tactic| first
  | assumption | exact Bd.sub (by walk_at "bd") (by walk_at "bd") | exact Bd.add (by walk_at "bd") (by walk_at "bd") | exact Bd.mul (by walk_at "bd") (by walk_at "bd") | exact Bd.neg (by walk_at "bd") | exact Bd.lit (by decide))
local macro_rules | `(tactic| walk_at "r") => `(tactic| with_reducible first
  | refine r_seq ?_ | refine r_ret ?_ | refine r_asg ?_ | refine r_drop ?_ | refine r_op ?_ | refine r_un ?_ | refine r_c ?_ | refine r_cons ?_ | refine r_nil ?_ | refine r_i0 ?_ | refine r_U ?_ | refine r_name ?_ | refine r_if ?_ | refine r_test ?_ | refine r_tB ?_ | refine r_bl ?_
  | refine r_call ?_ | refine r_meth ?_ | refine r_fld ?_ | refine r_tup ?_ | refine r_lst ?_ | refine r_cb ?_ | refine r_andV ?_ | refine r_orV ?_ | refine r_notV ?_ | refine r_and ?_ | refine r_or ?_ | refine r_not ?_ | refine r_eqI ?_ | refine r_neI ?_ | refine r_eqB ?_ | refine r_neB ?_
  | refine r_next ?_ | refine r_par ?_ | refine r_lc ?_ | refine r_yes ?_ | refine r_iList ?_ | refine r_iRng1 ?_ | refine r_lstRg ?_ | refine r_rg1 ?_ | refine r_gcons ?_ | refine r_gnil ?_ | refine r_var (by with_unfolding_all rfl) ?_)
local macro_rules | `(tactic| walk_at "s") => `(tactic| first
  | walk_at "r" | (with_reducible refine r_ixT (by assumption) (by with_unfolding_all rfl) ?_) | ((with_reducible refine r_iM ?_ ?_); exact bd_mul (by walk_at "bd") (by walk_at "bd") (by decide)) | (with_reducible refine r_gtup (by assumption) (by with_unfolding_all rfl) ?_) | refine RoomAt.meth (by assumption) ?_)
local macro_rules | `(tactic| walk_at "d") => `(tactic| dsimp only [cxOf, Cx.nox, Cx.wish])

section
variable {K : PySem.W.Frag} {H : Hp} {p q : Addr}
theorem fmod_small (a : Int) {b : Int} (h : b ≠ 0) : (a.fmod b).natAbs < b.natAbs := by
  by_cases z : 0 < b
  · have h1 := Int.fmod_nonneg_of_pos a z
    have h2 := Int.fmod_lt_of_pos a z
    omega
  · have e : (-a).fmod (-b) = -a.fmod b := Int.neg_fmod_neg a b
    have h1 := Int.fmod_nonneg_of_pos (-a) (show 0 < -b by omega)
    have h2 := Int.fmod_lt_of_pos (-a) (show 0 < -b by omega)
    omega
theorem gcd_fmod (a b : Int) : Int.gcd b (a.fmod b) = Int.gcd a b := by
  rw [Int.fmod_def, Int.gcd_sub_mul_left_right, Int.gcd_comm]
theorem dp_ints : ∀ ns : List Int, DpAll K H (ns.map V.int) (ns.map PyData.int)
  | [] => .nil
  | n :: r => .cons (.int n) (dp_ints r)
theorem eqv_ints : ∀ ns ms : List Int, PyData.eqvAll (ns.map PyData.int) (ms.map PyData.int) = decide (ns = ms)
  | [], [] => rfl
  | [], _ :: _ => rfl
  | _ :: _, [] => rfl
  | n :: ns, m :: ms => by
    show ((n == m) && PyData.eqvAll (ns.map PyData.int) (ms.map PyData.int)) = _
    rw [eqv_ints ns ms]
    by_cases e : n = m
    · subst e
      simp
    · simp [e]
theorem r_eqTs {ns ms : List Int} {Q : VK} (hp : SqT K H p (ns.map V.int)) (hq : SqT K H q (ms.map V.int)) (s1 : SeqAt.shaped (.tuple (ns.map PyData.int)) = true) (s2 : SeqAt.shaped (.tuple (ms.map PyData.int)) = true) (h : Q (.bl (decide (ns = ms))) H) : rEqD K (.ref p) (.ref q) H Q := by
  refine ⟨_, _, .tup hp (dp_ints ns), .tup hq (dp_ints ms), s1, s2, ?_⟩
  show Q (.bl (PyData.eqvAll (ns.map PyData.int) (ms.map PyData.int))) H
  rw [eqv_ints]
  exact h
theorem r_neTs {ns ms : List Int} {Q : VK} (hp : SqT K H p (ns.map V.int)) (hq : SqT K H q (ms.map V.int)) (s1 : SeqAt.shaped (.tuple (ns.map PyData.int)) = true) (s2 : SeqAt.shaped (.tuple (ms.map PyData.int)) = true) (h : Q (.bl (!decide (ns = ms))) H) : rNeD K (.ref p) (.ref q) H Q := by
  refine ⟨_, _, .tup hp (dp_ints ns), .tup hq (dp_ints ms), s1, s2, ?_⟩
  show Q (.bl (!PyData.eqvAll (ns.map PyData.int) (ms.map PyData.int))) H
  rw [eqv_ints]
  exact h
theorem r_eqLs {ns ms : List Int} {Q : VK} (hp : SqL K H p (ns.map V.int)) (hq : SqL K H q (ms.map V.int)) (s1 : SeqAt.shaped (.list (ns.map PyData.int)) = true) (s2 : SeqAt.shaped (.list (ms.map PyData.int)) = true) (h : Q (.bl (decide (ns = ms))) H) : rEqD K (.ref p) (.ref q) H Q := by
  refine ⟨_, _, .lst hp (dp_ints ns), .lst hq (dp_ints ms), s1, s2, ?_⟩
  show Q (.bl (PyData.eqvAll (ns.map PyData.int) (ms.map PyData.int))) H
  rw [eqv_ints]
  exact h
theorem r_par {i j : Nat} {ta : TA} {D : Ends} {σ : L2.St} (h : ta σ H fun vs H1 => ∃ v w, vs = [v, w] ∧ D.nx ((σ.set i (some v)).set j (some w)) H1) : tPar i j ta D σ H := h
theorem r_glst {σ : L2.St} {Q : L2.St → Hp → Prop} {a : Addr} {xs : List V} {n : Nat} {t : TGs} (hs : SqL K H a xs) (hl : xs.length = n) (h : t xs σ H Q) : gLst K n t (.ref a) σ H Q := ⟨a, xs, rfl, hs, hl, h⟩
end
end Rt
set_option Elab.async false
set_option linter.all false
set_option maxRecDepth 100000
set_option maxHeartbeats 4000000
namespace Rt
open PySem PySem.Spec PyProof.Rows L2
open C8 (Cal Met Mak pe_c pe_mk pe_mt pe_mt0 pe_gc)
local macro_rules | `(tactic| walk_at "bd") => `(tactic| first
  | assumption | exact Bd.sub (by walk_at "bd") (by walk_at "bd") | exact Bd.add (by walk_at "bd") (by walk_at "bd") | exact Bd.mul (by walk_at "bd") (by walk_at "bd") | exact Bd.neg (by walk_at "bd") | exact Bd.lit (by decide))
local macro_rules | `(tactic| walk_at "r") => `(tactic| with_reducible first
  | refine r_seq ?_ | refine r_ret ?_ | refine r_asg ?_ | refine r_drop ?_ | refine r_op ?_ | refine r_un ?_ | refine r_c ?_ | refine r_cons ?_ | refine r_nil ?_ | refine r_i0 ?_ | refine r_U ?_ | refine r_name ?_ | refine r_if ?_ | refine r_test ?_ | refine r_tB ?_ | refine r_bl ?_
  | refine r_call ?_ | refine r_meth ?_ | refine r_fld ?_ | refine r_tup ?_ | refine r_lst ?_ | refine r_cb ?_ | refine r_andV ?_ | refine r_orV ?_ | refine r_notV ?_ | refine r_and ?_ | refine r_or ?_ | refine r_not ?_ | refine r_eqI ?_ | refine r_neI ?_ | refine r_eqB ?_ | refine r_neB ?_
  | refine r_next ?_ | refine r_par ?_ | refine r_lc ?_ | refine r_yes ?_ | refine r_iList ?_ | refine r_iRng1 ?_ | refine r_lstRg ?_ | refine r_rg1 ?_ | refine r_gcons ?_ | refine r_gnil ?_ | refine r_var (by with_unfolding_all rfl) ?_)
local macro_rules | `(tactic| walk_at "s") => `(tactic| first
  | walk_at "r" | (with_reducible refine r_ixT (by assumption) (by with_unfolding_all rfl) ?_) | ((with_reducible refine r_iM ?_ ?_); exact bd_mul (by walk_at "bd") (by walk_at "bd") (by decide)) | (with_reducible refine r_gtup (by assumption) (by with_unfolding_all rfl) ?_) | refine RoomAt.meth (by assumption) ?_)
local macro_rules | `(tactic| walk_at "d") => `(tactic| try dsimp only [cxOf, Cx.nox, Cx.wish])

section
variable {P : Program} {w : World} {K : PySem.W.Frag} {mg : Str → Option Value} {base : Heap}
def spGcd : Sp := fun vs H Q _ => ∃ (x y : Int), vs = [.int x, .int y] ∧ Q (.int (Int.gcd x y : Nat)) H
theorem ok_common_divisor (T : Tx K mg base) : Cal P w K mg base 1 "common_divisor" spGcd [] := by
  refine mkC T.f_common_divisor T.g_common_divisor sc_common_divisor (fun _ _ _ _ _ _ us hl => match us, hl with | [_, _], _ => rfl) (fun vs H Q E h => ?_) (fun f cdv A outer s H vs Q E hr h => ⟨_, (pss_cons (ps_while PassesOwn.never (pt_cmpR op_ne (pv 1) pe_int (nomark _)) (pss_one (ps_par (i := 0) (j := 1) rfl sc_common_divisor.nd rfl rfl (by decide) rfl rfl (pa_cons (pv 1) (pa_cons (pe_op op_modN (pv 0) (pv 1)) pa_nil)) rfl)))
      (pss_one (ps_ret (pe_callB call_abs (by rfl) T.n_abs (by decide +kernel) (pa_cons (pv 0) pa_nil))))), ?_⟩)
  · obtain ⟨x, y, rfl, _⟩ := h
    rfl
  · obtain ⟨x, y, rfl, k⟩ := h
    walk_at "d"
    repeat walk_at "s"
    refine ⟨fun m σ' H' => ∃ a b : Int, σ' = [some (.int a), some (.int b)] ∧ m = b.natAbs ∧ Int.gcd a b = Int.gcd x y ∧ H' = H, ⟨_, x, y, rfl, rfl, rfl, rfl⟩, ?_⟩
    rintro m σ' H' ⟨a, b, rfl, rfl, hg, rfl⟩
    repeat walk_at "s"
    refine r_iteB (fun c => ?_) fun c => ?_
    · have nb : b ≠ 0 := by
        intro z
        subst z
        simp at c
      refine ⟨fun σ2 H2 => σ2 = [some (.int b), some (.int (a.fmod b))] ∧ H2 = H', fun σ2 H2 e => ⟨_, fmod_small a nb, b, a.fmod b, e.1, rfl, (gcd_fmod a b).trans hg, e.2⟩, ?_⟩
      repeat walk_at "s"
      refine r_iC nb ?_
      repeat walk_at "s"
      exact ⟨_, _, rfl, rfl, rfl⟩
    · have zb : b = 0 := by
        by_cases z : b = 0
        · exact z
        · simp [z] at c
      subst zb
      repeat walk_at "s"
      refine ⟨_, rfl, ?_⟩
      have e : (if a < 0 then -a else a) = ((Int.gcd x y : Nat) : Int) := by
        rw [← hg, Int.gcd_zero_right]
        split <;> omega
      rw [e]
      exact k
theorem gcd_pos_of {a b c d : Int} (h : 0 < d) : 0 < Int.gcd (Int.gcd a b : Nat) (Int.gcd c d : Nat) := by
  have h1 : 0 < Int.gcd c d := Int.gcd_pos_of_ne_zero_right c (by omega)
  exact Int.gcd_pos_of_ne_zero_right _ (by omega)
theorem gcd_le_of {a b c d : Int} (h : 0 < d) : (Int.gcd (Int.gcd a b : Nat) (Int.gcd c d : Nat) : Int) ≤ d := by
  have h1 : Int.gcd (Int.gcd a b : Nat) (Int.gcd c d : Nat) ∣ Int.gcd c d := by
    have := Int.gcd_dvd_natAbs_right (Int.gcd a b : Nat) (Int.gcd c d : Nat)
    simpa using this
  have h2 : Int.gcd c d ∣ d.natAbs := Int.gcd_dvd_natAbs_right c d
  have h3 := Nat.le_of_dvd (by omega) (Nat.dvd_trans h1 h2)
  omega
def spPoint (K : PySem.W.Frag) : Sp := fun vs H Q _ => ∃ (x y z w : Int), vs = [.int x, .int y, .int z, .int w] ∧ 0 < w ∧ Bd 8000 w ∧ ∀ H' p, Same H H' → P4 K H' p (iPoint x y z w) → Q (.ref p) H'
theorem ok_point_of (T : Tx K mg base) : Cal P w K mg base 2 "point_of" (spPoint K) [] := by
  refine mkC T.f_point_of T.g_point_of sc_point_of (fun _ _ _ _ _ _ us hl => match us, hl with | [_, _, _, _], _ => rfl) (fun vs H Q E h => ?_) (fun f cdv A outer s H vs Q E hr h => ⟨_, (pss_cons (ps_set (i := 4) sc_point_of.nd rfl (Or.inl rfl) (pe_c (ok_common_divisor T) hr (by decide) rfl (pa_cons (pe_c (ok_common_divisor T) hr (by decide) rfl (pa_cons (pv 0) (pa_cons (pv 1) pa_nil))) (pa_cons (pe_c (ok_common_divisor T) hr (by decide) rfl (pa_cons (pv 2) (pa_cons (pv 3) pa_nil))) pa_nil))))
      (pss_one (ps_ret (pe_tup (pa_cons (pe_op op_fdivW (pv 0) (pv 4)) (pa_cons (pe_op op_fdivW (pv 1) (pv 4)) (pa_cons (pe_op op_fdivW (pv 2) (pv 4)) (pa_cons (pe_op op_fdivW (pv 3) (pv 4)) pa_nil)))))))), ?_⟩)
  · obtain ⟨x, y, z, w, rfl, _⟩ := h
    rfl
  · obtain ⟨x, y, z, w, rfl, hw, bw, k⟩ := h
    walk_at "d"
    repeat walk_at "s"
    refine ⟨x, y, rfl, ?_⟩
    repeat walk_at "s"
    refine ⟨z, w, rfl, ?_⟩
    repeat walk_at "s"
    refine ⟨_, _, rfl, ?_⟩
    have g0 := gcd_pos_of (a := x) (b := y) (c := z) hw
    have g1 := gcd_le_of (a := x) (b := y) (c := z) hw
    have hd : CDivW 0 (Int.gcd (Int.gcd x y : Nat) (Int.gcd z w : Nat) : Nat) := wide_div (b := 8000) (by omega) (Nat.lt_of_le_of_lt (by omega) bw.h) (by decide) (by decide)
    repeat walk_at "s"
    refine r_iC ⟨hd.1, hd.2⟩ ?_
    repeat walk_at "s"
    refine r_iC ⟨hd.1, hd.2⟩ ?_
    repeat walk_at "s"
    refine r_iC ⟨hd.1, hd.2⟩ ?_
    repeat walk_at "s"
    refine r_iC ⟨hd.1, hd.2⟩ ?_
    repeat walk_at "s"
    refine ⟨sz4, fun t ht => ?_⟩
    exact k _ _ (same_new ht) (SqT.of upd_same)
def spWay (K : PySem.W.Frag) : Sp := fun vs H Q _ => ∃ (a b : Addr) (p q : Q4), vs = [.ref a, .ref b] ∧ P4 K H a p ∧ P4 K H b q ∧ B4 1000 p ∧ B4 1000 q ∧ ∀ H' t, Same H H' → SqT K H' t [.int (iWay p q).1, .int (iWay p q).2] → Q (.ref t) H'
theorem ok_direction (T : Tx K mg base) : Cal P w K mg base 1 "direction" (spWay K) [] := by
  refine mkC T.f_direction T.g_direction sc_direction (fun _ _ _ _ _ _ us hl => match us, hl with | [_, _], _ => rfl) (fun vs H Q E h => ?_) (fun f cdv A outer s H vs Q E hr h => ⟨_, (pss_one (ps_ret (pe_tup (pa_cons (pe_op op_sub (pe_op op_mulW (pe_ix ix_tup (pv 1) pe_int (fun _ _ => rfl)) (pe_ix ix_tup (pv 0) pe_int (fun _ _ => rfl))) (pe_op op_mulW (pe_ix ix_tup (pv 0) pe_int (fun _ _ => rfl)) (pe_ix ix_tup (pv 1) pe_int (fun _ _ => rfl)))) (pa_cons (pe_op op_sub (pe_op op_mulW (pe_ix ix_tup (pv 1) pe_int (fun _ _ => rfl)) (pe_ix ix_tup (pv 0) pe_int (fun _ _ => rfl))) (pe_op op_mulW (pe_ix ix_tup (pv 0) pe_int (fun _ _ => rfl)) (pe_ix ix_tup (pv 1) pe_int (fun _ _ => rfl)))) pa_nil))))), ?_⟩)
  · obtain ⟨a, b, p, q, rfl, _⟩ := h
    rfl
  · obtain ⟨a, b, p, q, rfl, ha, hb, ⟨p1, p2, p3, p4⟩, ⟨q1, q2, q3, q4⟩, k⟩ := h
    walk_at "d"
    repeat walk_at "s"
    refine ⟨sz2, fun t ht => ?_⟩
    exact k _ _ (same_new ht) (SqT.of upd_same)
def spFrom (K : PySem.W.Frag) : Sp := fun vs H Q _ => ∃ (a b : Addr) (p : Q4) (x y : Int), vs = [.ref a, .ref b] ∧ P4 K H a p ∧ SqT K H b [.int x, .int y] ∧ B4 1000 p ∧ Bd 12 x ∧ Bd 12 y ∧ ∀ H' t, Same H H' → SqT K H' t [.int (x * p.w - p.x), .int (y * p.w - p.y)] → Q (.ref t) H'
theorem ok_from_corner (T : Tx K mg base) : Cal P w K mg base 1 "from_corner" (spFrom K) [] := by
  refine mkC T.f_from_corner T.g_from_corner sc_from_corner (fun _ _ _ _ _ _ us hl => match us, hl with | [_, _], _ => rfl) (fun vs H Q E h => ?_) (fun f cdv A outer s H vs Q E hr h => ⟨_, (pss_one (ps_ret (pe_tup (pa_cons (pe_op op_sub (pe_op op_mulW (pe_ix ix_tup (pv 1) pe_int (fun _ _ => rfl)) (pe_ix ix_tup (pv 0) pe_int (fun _ _ => rfl))) (pe_ix ix_tup (pv 0) pe_int (fun _ _ => rfl))) (pa_cons (pe_op op_sub (pe_op op_mulW (pe_ix ix_tup (pv 1) pe_int (fun _ _ => rfl)) (pe_ix ix_tup (pv 0) pe_int (fun _ _ => rfl))) (pe_ix ix_tup (pv 0) pe_int (fun _ _ => rfl))) pa_nil))))), ?_⟩)
  · obtain ⟨a, b, p, x, y, rfl, _⟩ := h
    rfl
  · obtain ⟨a, b, p, x, y, rfl, ha, hb, ⟨p1, p2, p3, p4⟩, bx, by', k⟩ := h
    walk_at "d"
    repeat walk_at "s"
    refine ⟨sz2, fun t ht => ?_⟩
    exact k _ _ (same_new ht) (SqT.of upd_same)
def spAhead (K : PySem.W.Frag) : Sp := fun vs H Q _ => ∃ (p q : Addr) (a b c d : Int), vs = [.ref p, .ref q] ∧ SqT K H p [.int a, .int b] ∧ SqT K H q [.int c, .int d] ∧ (Bd 5000 a ∧ Bd 5000 b ∧ Bd 5000 c ∧ Bd 5000 d) ∧ Q (.int (iAhead (a, b) (c, d))) H
theorem ok_ahead (T : Tx K mg base) : Cal P w K mg base 1 "ahead" (spAhead K) [] := by
  refine mkC T.f_ahead T.g_ahead sc_ahead (fun _ _ _ _ _ _ us hl => match us, hl with | [_, _], _ => rfl) (fun vs H Q E h => ?_) (fun f cdv A outer s H vs Q E hr h => ⟨_, (pss_one (ps_ret (pe_op op_add (pe_op op_mulW (pe_ix ix_tup (pv 0) pe_int (fun _ _ => rfl)) (pe_ix ix_tup (pv 1) pe_int (fun _ _ => rfl))) (pe_op op_mulW (pe_ix ix_tup (pv 0) pe_int (fun _ _ => rfl)) (pe_ix ix_tup (pv 1) pe_int (fun _ _ => rfl)))))), ?_⟩)
  · obtain ⟨p, q, a, b, c, d, rfl, _⟩ := h
    rfl
  · obtain ⟨p, q, a, b, c, d, rfl, hp, hq, ⟨b1, b2, b3, b4⟩, k⟩ := h
    walk_at "d"
    repeat walk_at "s"
    exact k
end
end Rt
set_option Elab.async false
set_option linter.all false
set_option maxRecDepth 100000
set_option maxHeartbeats 4000000
namespace Rt
open PySem PySem.Spec PyProof.Rows L2
open C8 (Cal Met Mak pe_c pe_mk pe_mt pe_mt0 pe_gc)
local macro_rules | `(tactic| walk_at "bd") => `(tactic| first
  | assumption | exact Bd.sub (by walk_at "bd") (by walk_at "bd") | exact Bd.add (by walk_at "bd") (by walk_at "bd") | exact Bd.mul (by walk_at "bd") (by walk_at "bd") | exact Bd.neg (by walk_at "bd") | exact Bd.lit (by decide))
local macro_rules | `(tactic| walk_at "r") => `(tactic| with_reducible first
  | refine r_seq ?_ | refine r_ret ?_ | refine r_asg ?_ | refine r_drop ?_ | refine r_op ?_ | refine r_un ?_ | refine r_c ?_ | refine r_cons ?_ | refine r_nil ?_ | refine r_i0 ?_ | refine r_U ?_ | refine r_name ?_ | refine r_if ?_ | refine r_test ?_ | refine r_tB ?_ | refine r_bl ?_
  | refine r_call ?_ | refine r_meth ?_ | refine r_fld ?_ | refine r_tup ?_ | refine r_lst ?_ | refine r_cb ?_ | refine r_andV ?_ | refine r_orV ?_ | refine r_notV ?_ | refine r_and ?_ | refine r_or ?_ | refine r_not ?_ | refine r_eqI ?_ | refine r_neI ?_ | refine r_eqB ?_ | refine r_neB ?_
  | refine r_next ?_ | refine r_par ?_ | refine r_lc ?_ | refine r_yes ?_ | refine r_iList ?_ | refine r_iRng1 ?_ | refine r_lstRg ?_ | refine r_rg1 ?_ | refine r_gcons ?_ | refine r_gnil ?_ | refine r_var (by with_unfolding_all rfl) ?_)
local macro_rules | `(tactic| walk_at "s") => `(tactic| first
  | walk_at "r" | (with_reducible refine r_ixT (by assumption) (by with_unfolding_all rfl) ?_) | ((with_reducible refine r_iM ?_ ?_); exact bd_mul (by walk_at "bd") (by walk_at "bd") (by decide)) | (with_reducible refine r_gtup (by assumption) (by with_unfolding_all rfl) ?_) | refine RoomAt.meth (by assumption) ?_)
local macro_rules | `(tactic| walk_at "d") => `(tactic| try dsimp only [cxOf, Cx.nox, Cx.wish])

theorem bd_way {p q : Q4} (hp : B4 1000 p) (hq : B4 1000 q) : Bd 2001 (iWay p q).1 ∧ Bd 2001 (iWay p q).2 := by
  obtain ⟨p1, p2, p3, p4⟩ := hp
  obtain ⟨q1, q2, q3, q4⟩ := hq
  exact ⟨(Bd.sub (Bd.mul q1 p4) (Bd.mul p1 q4)).mono (by decide), (Bd.sub (Bd.mul q2 p4) (Bd.mul p2 q4)).mono (by decide)⟩
theorem bd_from {r : Eh.Room} (R : RW r) {p : Q4} (hp : B4 1000 p) (i : Nat) : Bd 1013 (iFrom r p i).1 ∧ Bd 1013 (iFrom r p i).2 := by
  obtain ⟨p1, p2, p3, p4⟩ := hp
  exact ⟨(Bd.sub (Bd.mul (R.bx i) p4) p1).mono (by decide), (Bd.sub (Bd.mul (R.by_ i) p4) p2).mono (by decide)⟩
theorem bd_max {n : Nat} {x y : Int} (a : Bd n x) (b : Bd n y) : Bd n (max x y) := by
  by_cases h : x ≤ y
  · rw [Int.max_eq_right h]; exact b
  · rw [Int.max_eq_left (by omega)]; exact a
theorem bd_min {n : Nat} {x y : Int} (a : Bd n x) (b : Bd n y) : Bd n (min x y) := by
  by_cases h : x ≤ y
  · rw [Int.min_eq_left h]; exact a
  · rw [Int.min_eq_right (by omega)]; exact b
section
variable {P : Program} {w : World} {K : PySem.W.Frag} {mg : Str → Option Value} {base : Heap}
def spBetween (K : PySem.W.Frag) : Sp := fun vs H Q _ => ∃ (a b : Addr) (p q : Q4), vs = [.ref a, .ref b] ∧ P4 K H a p ∧ P4 K H b q ∧ B4 1000 p ∧ B4 1000 q ∧ 0 < p.w ∧ 0 < q.w ∧ ∀ H' t, Same H H' → P4 K H' t (iBetween p q) → Q (.ref t) H'
theorem three {i : Nat} (h : i < 3) : i = 0 ∨ i = 1 ∨ i = 2 := by omega
theorem ok_between (T : Tx K mg base) : Cal P w K mg base 3 "between" (spBetween K) [] := by
  refine mkC T.f_between T.g_between sc_between (fun _ _ _ _ _ _ us hl => match us, hl with | [_, _], _ => rfl) (fun vs H Q E h => ?_) (fun f cdv A outer s H vs Q E hr h => ⟨_, (pss_cons (ps_asg (pe_lc (own := [("k", 5)]) rfl sc_between.nd (pi_range1 (by rfl) T.n_range (pa_cons pe_int pa_nil)) (blkOk_by (own := [("k", 5)]) (N := ["one", "other", "x", "y", "z", "k"]) (sc := defScope s_between) (by decide +kernel)) (fun _ _ _ _ _ => (pg_name (i := 5) sc_between.nd rfl (Or.inl rfl))) (fun _ _ _ _ _ => pts_nil) (fun _ _ _ _ _ => (pe_op op_add (pe_op op_mulW (pe_ix (r := rIxT K) ix_tup (pv 0) (pv 5) (fun _ _ => rfl)) (pe_ix (r := rIxT K) ix_tup (pv 1) pe_int (fun _ _ => rfl))) (pe_op op_mulW (pe_ix (r := rIxT K) ix_tup (pv 1) (pv 5) (fun _ _ => rfl)) (pe_ix (r := rIxT K) ix_tup (pv 0) pe_int (fun _ _ => rfl)))))) (pg_lst rfl (pgs_cons (pg_name (i := 2) sc_between.nd rfl (Or.inl rfl)) (pgs_cons (pg_name (i := 3) sc_between.nd rfl (Or.inl rfl)) (pgs_cons (pg_name (i := 4) sc_between.nd rfl (Or.inl rfl)) pgs_nil)))))
      (pss_one (ps_ret (pe_c (ok_point_of T) hr (by decide) rfl (pa_cons (pv 2) (pa_cons (pv 3) (pa_cons (pv 4) (pa_cons (pe_op op_mulW (pe_op op_mulW pe_int (pe_ix (r := rIxT K) ix_tup (pv 0) pe_int (fun _ _ => rfl))) (pe_ix (r := rIxT K) ix_tup (pv 1) pe_int (fun _ _ => rfl))) pa_nil)))))))), ?_⟩)
  · obtain ⟨a, b, p, q, rfl, _⟩ := h
    rfl
  · obtain ⟨a, b, p, q, rfl, ha, hb, bp, bq, pw0, qw0, k⟩ := h
    obtain ⟨p1, p2, p3, p4⟩ := id bp
    obtain ⟨q1, q2, q3, q4⟩ := id bq
    walk_at "d"
    repeat walk_at "s"
    refine ⟨3, rfl, by decide, by decide, fun D hD => ?_⟩
    refine lcRangeV (lo := 0) (n := 3) (f := fun x => .int (match natV x with | 0 => p.x * q.w + q.x * p.w | 1 => p.y * q.w + q.y * p.w | _ => p.z * q.w + q.z * p.w)) (p := fun _ => true) hD (by decide) (fun i H1 G F hi S h1 h2 => ?_) (fun H1 S e => ?_)
    · have ha1 := S.tup ha
      have hb1 := S.tup hb
      refine ⟨rfl, ?_⟩
      refine r_yes ?_
      refine r_itT rfl ?_
      rcases three hi with rfl | rfl | rfl <;> (repeat walk_at "s") <;> exact h2 rfl _ (Same.refl H1)
    · have e' : H1 D = some (.lst [.int (p.x * q.w + q.x * p.w), .int (p.y * q.w + q.y * p.w), .int (p.z * q.w + q.z * p.w)]) := e
      have ha1 := S.tup ha
      have hb1 := S.tup hb
      refine r_glst (SqL.of e') rfl ?_
      repeat walk_at "s"
      refine ⟨_, _, _, _, rfl, ?_, ?_, fun H2 t S2 ht => k _ _ (S.trans S2) ht⟩
      · exact Int.mul_pos (Int.mul_pos (by decide) pw0) qw0
      · exact (Bd.mul (Bd.mul (Bd.lit (by decide)) p4) q4).mono (by decide)
def spBlk (K : PySem.W.Frag) (f : Eh.Room → Nat → Q4 → Q4 → Bool) : Sp := fun vs H Q _ => ∃ (a b c : Addr) (r : Eh.Room) (i : Nat) (p q : Q4), vs = [.ref a, .int i, .ref b, .ref c] ∧ RoomAt K H a r ∧ P4 K H b p ∧ P4 K H c q ∧ B4 1000 p ∧ B4 1000 q ∧ ∀ H', Same H H' → Q (.bl (f r i p q)) H'
theorem ok_is_blocked_along (T : Tx K mg base) : Cal P w K mg base 3 "is_blocked_along" (spBlk K iBlockAlong) [] := by
  refine mkC T.f_is_blocked_along T.g_is_blocked_along sc_is_blocked_along (fun _ _ _ _ _ _ us hl => match us, hl with | [_, _, _, _], _ => rfl) (fun vs H Q E h => ?_) (fun f cdv A outer s H vs Q E hr h => ⟨_, (pss_cons (ps_set (i := 4) sc_is_blocked_along.nd rfl (Or.inl rfl) (pe_c (ok_direction T) hr (by decide) rfl (pa_cons (pv 2) (pa_cons (pv 3) pa_nil))))
      (pss_cons (ps_set (i := 5) sc_is_blocked_along.nd rfl (Or.inl rfl) (pe_lst (pa_cons (pe_c (ok_ahead T) hr (by decide) rfl (pa_cons (pv 4) (pa_cons (pe_c (ok_from_corner T) hr (by decide) rfl (pa_cons (pv 2) (pa_cons (pe_mt (ok_Room_corner T) hr (by decide) (pv 0) (pa_cons (pv 1) pa_nil)) pa_nil))) pa_nil))) (pa_cons (pe_c (ok_ahead T) hr (by decide) rfl (pa_cons (pv 4) (pa_cons (pe_c (ok_from_corner T) hr (by decide) rfl (pa_cons (pv 2) (pa_cons (pe_mt (ok_Room_corner T) hr (by decide) (pv 0) (pa_cons (pe_op op_add (pv 1) pe_int) pa_nil)) pa_nil))) pa_nil))) pa_nil))))
      (pss_one (ps_ret (pe_and (pe_cmpR op_gt (pe_callB (cr_max rfl) (by rfl) T.n_max (by decide +kernel) (pa_cons (pv 5) pa_nil)) pe_int (nomark _)) (pe_one (pe_cmpR op_lt (pe_op op_mulW (pe_callB (cr_min rfl) (by rfl) T.n_min (by decide +kernel) (pa_cons (pv 5) pa_nil)) (pe_ix (r := rIxT K) ix_tup (pv 3) pe_int (fun _ _ => rfl))) (pe_c (ok_ahead T) hr (by decide) rfl (pa_cons (pv 4) (pa_cons (pv 4) pa_nil))) (nomark _)))))))), ?_⟩)
  · obtain ⟨a, b, c, r, i, p, q, rfl, _⟩ := h
    rfl
  · obtain ⟨a, b, c, r, i, p, q, rfl, hR, hb, hc, bp, bq, k⟩ := h
    obtain ⟨q1, q2, q3, q4⟩ := id bq
    obtain ⟨w1, w2⟩ := bd_way bp bq
    have R := hR.rw_
    obtain ⟨f1, f2⟩ := bd_from R bp i
    obtain ⟨g1, g2⟩ := bd_from R bp (i + 1)
    walk_at "d"
    repeat walk_at "s"
    refine ⟨b, c, p, q, rfl, hb, hc, bp, bq, fun H1 t1 S1 ht1 => ?_⟩
    have hR1 := hR.same S1
    repeat walk_at "s"
    refine ⟨a, r, i, rfl, hR1, fun d1 hd1 => ?_⟩
    repeat walk_at "s"
    refine ⟨b, d1, p, _, _, rfl, S1.tup hb, hd1, bp, R.bx i, R.by_ i, fun H2 t2 S2 ht2 => ?_⟩
    have S2' := S1.trans S2
    have ht1 := S2.tup ht1
    have hR2 := hR.same S2'
    repeat walk_at "s"
    refine ⟨t1, t2, _, _, _, _, rfl, ht1, ht2, ⟨w1.mono (by decide), w2.mono (by decide), f1.mono (by decide), f2.mono (by decide)⟩, ?_⟩
    repeat walk_at "s"
    refine ⟨a, r, i + 1, by simp, hR2, fun d2 hd2 => ?_⟩
    repeat walk_at "s"
    refine ⟨b, d2, p, _, _, rfl, S2'.tup hb, hd2, bp, R.bx (i + 1), R.by_ (i + 1), fun H3 t3 S3 ht3 => ?_⟩
    have S3' := S2'.trans S3
    have ht1 := S3.tup ht1
    repeat walk_at "s"
    refine ⟨t1, t3, _, _, _, _, rfl, ht1, ht3, ⟨w1.mono (by decide), w2.mono (by decide), g1.mono (by decide), g2.mono (by decide)⟩, ?_⟩
    repeat walk_at "s"
    refine ⟨sz2, fun l hl => ?_⟩
    have bA : Bd 3020 (iAhead (iWay p q) (iFrom r p i)) := (Bd.add (Bd.mul w1 f1) (Bd.mul w2 f2)).mono (by decide)
    have bB : Bd 3020 (iAhead (iWay p q) (iFrom r p (i + 1))) := (Bd.add (Bd.mul w1 g1) (Bd.mul w2 g2)).mono (by decide)
    have k' : ∀ H', Same H H' → Q (.bl (decide (0 < max (iAhead (iWay p q) (iFrom r p i)) (iAhead (iWay p q) (iFrom r p (i + 1)))) && decide (min (iAhead (iWay p q) (iFrom r p i)) (iAhead (iWay p q) (iFrom r p (i + 1))) * q.w < iAhead ((iWay p q).1, (iWay p q).2) ((iWay p q).1, (iWay p q).2)))) H' := k
    change Bd 3020 (iAhead ((iWay p q).1, (iWay p q).2) ((r.corner i).x * p.w - p.x, (r.corner i).y * p.w - p.y)) at bA
    change Bd 3020 (iAhead ((iWay p q).1, (iWay p q).2) ((r.corner (i + 1)).x * p.w - p.x, (r.corner (i + 1)).y * p.w - p.y)) at bB
    change ∀ H', Same H H' → Q (.bl (decide (0 < max (iAhead ((iWay p q).1, (iWay p q).2) ((r.corner i).x * p.w - p.x, (r.corner i).y * p.w - p.y)) (iAhead ((iWay p q).1, (iWay p q).2) ((r.corner (i + 1)).x * p.w - p.x, (r.corner (i + 1)).y * p.w - p.y))) && decide (min (iAhead ((iWay p q).1, (iWay p q).2) ((r.corner i).x * p.w - p.x, (r.corner i).y * p.w - p.y)) (iAhead ((iWay p q).1, (iWay p q).2) ((r.corner (i + 1)).x * p.w - p.x, (r.corner (i + 1)).y * p.w - p.y)) * q.w < iAhead ((iWay p q).1, (iWay p q).2) ((iWay p q).1, (iWay p q).2)))) H' at k'
    generalize iAhead ((iWay p q).1, (iWay p q).2) ((r.corner i).x * p.w - p.x, (r.corner i).y * p.w - p.y) = A at *
    generalize iAhead ((iWay p q).1, (iWay p q).2) ((r.corner (i + 1)).x * p.w - p.x, (r.corner (i + 1)).y * p.w - p.y) = B at *
    have S4 := same_new (o := .lst [V.int A, V.int B]) hl
    have ht1 := S4.tup ht1
    have hc4 := S4.tup (S3'.tup hc)
    have hL : SqL K (upd H3 l (.lst [V.int A, V.int B])) l ([A, B].map V.int) := SqL.of upd_same
    have k4 := k' _ (S3'.trans S4)
    generalize upd H3 l (.lst [V.int A, V.int B]) = H4 at *
    repeat walk_at "s"
    refine ⟨_, [A, B], rfl, hL, Nat.zero_lt_succ _, fun m hm hmax => ?_⟩
    have em : m = max A B := by
      have h1 := hmax A (by simp)
      have h2 := hmax B (by simp)
      have h3 : m = A ∨ m = B := by simpa using hm
      omega
    subst em
    repeat walk_at "s"
    refine r_iteB (fun c1 => ?_) fun c1 => ?_
    · repeat walk_at "s"
      refine ⟨_, [A, B], rfl, hL, Nat.zero_lt_succ _, fun m hm hmin => ?_⟩
      have em : m = min A B := by
        have h1 := hmin A (by simp)
        have h2 := hmin B (by simp)
        have h3 : m = A ∨ m = B := by simpa using hm
        omega
      subst em
      have bm := bd_min bA bB
      repeat walk_at "s"
      refine ⟨t1, t1, _, _, _, _, rfl, ht1, ht1, ⟨w1.mono (by decide), w2.mono (by decide), w1.mono (by decide), w2.mono (by decide)⟩, ?_⟩
      repeat walk_at "s"
      rw [c1] at k4
      exact k4
    · rw [c1] at k4
      exact k4
end
end Rt
set_option Elab.async false
set_option linter.all false
set_option maxRecDepth 100000
set_option maxHeartbeats 4000000
namespace Rt
open PySem PySem.Spec PyProof.Rows L2
open C8 (Cal Met Mak pe_c pe_mk pe_mt pe_mt0 pe_gc)
local macro_rules | `(tactic| walk_at "bd") => `(tactic| first
  | assumption | exact Bd.sub (by walk_at "bd") (by walk_at "bd") | exact Bd.add (by walk_at "bd") (by walk_at "bd") | exact Bd.mul (by walk_at "bd") (by walk_at "bd") | exact Bd.neg (by walk_at "bd") | exact Bd.lit (by decide))
local macro_rules | `(tactic| walk_at "r") => `(tactic| with_reducible first
  | refine r_seq ?_ | refine r_ret ?_ | refine r_asg ?_ | refine r_drop ?_ | refine r_op ?_ | refine r_un ?_ | refine r_c ?_ | refine r_cons ?_ | refine r_nil ?_ | refine r_i0 ?_ | refine r_U ?_ | refine r_name ?_ | refine r_if ?_ | refine r_test ?_ | refine r_tB ?_ | refine r_bl ?_
  | refine r_call ?_ | refine r_meth ?_ | refine r_fld ?_ | refine r_tup ?_ | refine r_lst ?_ | refine r_cb ?_ | refine r_andV ?_ | refine r_orV ?_ | refine r_notV ?_ | refine r_and ?_ | refine r_or ?_ | refine r_not ?_ | refine r_eqI ?_ | refine r_neI ?_ | refine r_eqB ?_ | refine r_neB ?_
  | refine r_next ?_ | refine r_par ?_ | refine r_lc ?_ | refine r_yes ?_ | refine r_iList ?_ | refine r_iRng1 ?_ | refine r_lstRg ?_ | refine r_rg1 ?_ | refine r_gcons ?_ | refine r_gnil ?_ | refine r_var (by with_unfolding_all rfl) ?_)
local macro_rules | `(tactic| walk_at "s") => `(tactic| first
  | walk_at "r" | (with_reducible refine r_itT rfl ?_) | (with_reducible refine r_itF rfl ?_) | (with_reducible refine r_ixT (by assumption) (by with_unfolding_all rfl) ?_) | ((with_reducible refine r_iM ?_ ?_); exact bd_mul (by walk_at "bd") (by walk_at "bd") (by decide)) | (with_reducible refine r_gtup (by assumption) (by with_unfolding_all rfl) ?_) | refine RoomAt.meth (by assumption) ?_)
local macro_rules | `(tactic| walk_at "d") => `(tactic| try dsimp only [cxOf, Cx.nox, Cx.wish])

section
variable {P : Program} {w : World} {K : PySem.W.Frag} {mg : Str → Option Value} {base : Heap}
theorem ok_is_blocked (T : Tx K mg base) : Cal P w K mg base 5 "is_blocked" (spBlk K iBlocked) [] := by
  refine mkC T.f_is_blocked T.g_is_blocked sc_is_blocked (fun _ _ _ _ _ _ us hl => match us, hl with | [_, _, _, _], _ => rfl) (fun vs H Q E h => ?_) (fun f cdv A outer s H vs Q E hr h => ⟨_, (pss_cons (ps_set (i := 4) sc_is_blocked.nd rfl (Or.inl rfl) (pe_mt (ok_Room_beside T) hr (by decide) (pv 0) (pa_cons (pv 1) (pa_cons (pv 2) pa_nil))))
      (pss_cons (ps_set (i := 5) sc_is_blocked.nd rfl (Or.inl rfl) (pe_mt (ok_Room_beside T) hr (by decide) (pv 0) (pa_cons (pv 1) (pa_cons (pv 3) pa_nil))))
      (pss_cons (ps_if (PW.pt (pw_and (pt_cmpR op_eq (pv 4) pe_int (nomark _)) (pw_and1 (pt_cmpR op_eq (pv 5) pe_int (nomark _))))) (pss_one (ps_ret (pe_c (ok_is_blocked_along T) hr (by decide) rfl (pa_cons (pv 0) (pa_cons (pv 1) (pa_cons (pv 2) (pa_cons (pv 3) pa_nil))))))) pss_nil)
      (pss_cons (ps_if (PW.pt (pw_or (pt_cmpR op_eq (pe_cmpR op_gt (pv 4) pe_int (nomark _)) (pe_cmpR op_gt (pv 5) pe_int (nomark _)) (nomark _)) (pw_or (pt_cmpR op_eq (pv 4) pe_int (nomark _)) (pw_or1 (pt_cmpR op_eq (pv 5) pe_int (nomark _)))))) (pss_one (ps_ret pe_bl)) pss_nil)
      (pss_cons (ps_set (i := 6) sc_is_blocked.nd rfl (Or.inl rfl) (pe_c (ok_direction T) hr (by decide) rfl (pa_cons (pv 2) (pa_cons (pv 3) pa_nil))))
      (pss_cons (ps_set (i := 7) sc_is_blocked.nd rfl (Or.inl rfl) (pe_c (ok_cross T) hr (by decide) rfl (pa_cons (pv 6) (pa_cons (pe_c (ok_from_corner T) hr (by decide) rfl (pa_cons (pv 2) (pa_cons (pe_mt (ok_Room_corner T) hr (by decide) (pv 0) (pa_cons (pv 1) pa_nil)) pa_nil))) pa_nil))))
      (pss_cons (ps_set (i := 8) sc_is_blocked.nd rfl (Or.inl rfl) (pe_c (ok_cross T) hr (by decide) rfl (pa_cons (pv 6) (pa_cons (pe_c (ok_from_corner T) hr (by decide) rfl (pa_cons (pv 2) (pa_cons (pe_mt (ok_Room_corner T) hr (by decide) (pv 0) (pa_cons (pe_op op_add (pv 1) pe_int) pa_nil)) pa_nil))) pa_nil))))
      (pss_one (ps_ret (pe_or (pe_and (pe_cmpR op_ge (pv 7) pe_int (nomark _)) (pe_one (pe_cmpR op_le (pv 8) pe_int (nomark _)))) (pe_one (pe_and (pe_cmpR op_le (pv 7) pe_int (nomark _)) (pe_one (pe_cmpR op_ge (pv 8) pe_int (nomark _))))))))))))))), ?_⟩)
  · obtain ⟨a, b, c, r, i, p, q, rfl, _⟩ := h
    rfl
  · obtain ⟨a, b, c, r, i, p, q, rfl, hR, hb, hc, bp, bq, k⟩ := h
    have R := hR.rw_
    obtain ⟨w1, w2⟩ := bd_way bp bq
    obtain ⟨f1, f2⟩ := bd_from R bp i
    obtain ⟨g1, g2⟩ := bd_from R bp (i + 1)
    walk_at "d"
    repeat walk_at "s"
    refine ⟨a, b, r, i, p, rfl, hR, hb, bp.mono (by decide), fun H1 S1 => ?_⟩
    have hR1 := hR.same S1
    repeat walk_at "s"
    refine ⟨a, c, r, i, q, rfl, hR1, S1.tup hc, bq.mono (by decide), fun H2 S2 => ?_⟩
    have S2 := S1.trans S2
    have hR2 := hR.same S2
    have hb2 := S2.tup hb
    have hc2 := S2.tup hc
    -- the two ways out of the tests
    have no : decide (0 < iBeside r i p) = decide (0 < iBeside r i q) ∨ iBeside r i p = 0 ∨ iBeside r i q = 0 → ¬ (iBeside r i p = 0 ∧ iBeside r i q = 0) → Q (.bl false) H2 := fun c1 c2 => by
      have k2 := k _ S2
      unfold iBlocked at k2
      dsimp only at k2
      rw [if_neg c2, if_pos c1] at k2
      exact k2
    have yes : iBeside r i p = 0 ∧ iBeside r i q = 0 → ∀ H', Same H H' → Q (.bl (iBlockAlong r i p q)) H' := fun c1 H' S' => by
      have k2 := k _ S'
      unfold iBlocked at k2
      dsimp only at k2
      rw [if_pos c1] at k2
      exact k2
    have rest : ¬ (iBeside r i p = 0 ∧ iBeside r i q = 0) → ¬ (decide (0 < iBeside r i p) = decide (0 < iBeside r i q) ∨ iBeside r i p = 0 ∨ iBeside r i q = 0) → ∀ H', Same H H' → Q (.bl ((decide (0 ≤ iCross (iWay p q) (iFrom r p i)) && decide (iCross (iWay p q) (iFrom r p (i + 1)) ≤ 0)) || (decide (iCross (iWay p q) (iFrom r p i) ≤ 0) && decide (0 ≤ iCross (iWay p q) (iFrom r p (i + 1)))))) H' := fun c1 c2 H' S' => by
      have k2 := k _ S'
      unfold iBlocked at k2
      dsimp only at k2
      rw [if_neg c1, if_neg c2] at k2
      exact k2
    clear k
    generalize iBeside r i p = b1 at *
    generalize iBeside r i q = b2 at *
    repeat walk_at "s"
    refine r_iteB (fun c1 => ?_) fun c1 => ?_
    · have z1 : b1 = 0 := of_decide_eq_true c1
      repeat walk_at "s"
      refine r_iteB (fun c2 => ?_) fun c2 => ?_
      · have z2 : b2 = 0 := of_decide_eq_true c2
        repeat walk_at "s"
        exact ⟨a, b, c, r, i, p, q, rfl, hR2, hb2, hc2, bp, bq, fun H3 S3 => yes ⟨z1, z2⟩ _ (S2.trans S3)⟩
      · have z2 : b2 ≠ 0 := of_decide_eq_false c2
        have nn : ¬ (b1 = 0 ∧ b2 = 0) := fun z => z2 z.2
        repeat walk_at "s"
        refine r_iteB (fun c3 => ?_) fun c3 => ?_
        · repeat walk_at "s"
          exact no (.inl (of_decide_eq_true c3)) nn
        · repeat walk_at "s"
          refine r_iteB (fun c4 => ?_) fun c4 => ?_
          · repeat walk_at "s"
            exact no (.inr (.inl z1)) nn
          · exact absurd z1 (of_decide_eq_false c4)
    · have z1 : b1 ≠ 0 := of_decide_eq_false c1
      have nn : ¬ (b1 = 0 ∧ b2 = 0) := fun z => z1 z.1
      repeat walk_at "s"
      refine r_iteB (fun c3 => ?_) fun c3 => ?_
      · repeat walk_at "s"
        exact no (.inl (of_decide_eq_true c3)) nn
      · repeat walk_at "s"
        refine r_iteB (fun c4 => ?_) fun c4 => ?_
        · exact absurd (of_decide_eq_true c4) z1
        · repeat walk_at "s"
          refine r_iteB (fun c5 => ?_) fun c5 => ?_
          · repeat walk_at "s"
            exact no (.inr (.inr (of_decide_eq_true c5))) nn
          · have k := rest nn fun z => by
              rcases z with z | z | z
              · exact of_decide_eq_false c3 z
              · exact z1 z
              · exact of_decide_eq_false c5 z
            repeat walk_at "s"
            refine ⟨b, c, p, q, rfl, hb2, hc2, bp, bq, fun H3 t1 S3 ht1 => ?_⟩
            have S3 := S2.trans S3
            have hR3 := hR.same S3
            repeat walk_at "s"
            refine ⟨a, r, i, rfl, hR3, fun d1 hd1 => ?_⟩
            repeat walk_at "s"
            refine ⟨b, d1, p, _, _, rfl, S3.tup hb, hd1, bp, R.bx i, R.by_ i, fun H4 t2 S4 ht2 => ?_⟩
            have ht1 := S4.tup ht1
            have S4 := S3.trans S4
            have hR4 := hR.same S4
            repeat walk_at "s"
            refine ⟨t1, t2, _, _, _, _, rfl, ht1, ht2, ⟨w1.mono (by decide), w2.mono (by decide), f1.mono (by decide), f2.mono (by decide)⟩, ?_⟩
            repeat walk_at "s"
            refine ⟨a, r, i + 1, by simp, hR4, fun d2 hd2 => ?_⟩
            repeat walk_at "s"
            refine ⟨b, d2, p, _, _, rfl, S4.tup hb, hd2, bp, R.bx (i + 1), R.by_ (i + 1), fun H5 t3 S5 ht3 => ?_⟩
            have ht1 := S5.tup ht1
            have S5 := S4.trans S5
            repeat walk_at "s"
            refine ⟨t1, t3, _, _, _, _, rfl, ht1, ht3, ⟨w1.mono (by decide), w2.mono (by decide), g1.mono (by decide), g2.mono (by decide)⟩, ?_⟩
            have k5 := k _ S5
            change Q (.bl ((decide (0 ≤ (iWay p q).1 * ((r.corner i).y * p.w - p.y) - (iWay p q).2 * ((r.corner i).x * p.w - p.x)) && decide ((iWay p q).1 * ((r.corner (i + 1)).y * p.w - p.y) - (iWay p q).2 * ((r.corner (i + 1)).x * p.w - p.x) ≤ 0)) || (decide ((iWay p q).1 * ((r.corner i).y * p.w - p.y) - (iWay p q).2 * ((r.corner i).x * p.w - p.x) ≤ 0) && decide (0 ≤ (iWay p q).1 * ((r.corner (i + 1)).y * p.w - p.y) - (iWay p q).2 * ((r.corner (i + 1)).x * p.w - p.x))))) H5 at k5
            generalize (iWay p q).1 * ((r.corner i).y * p.w - p.y) - (iWay p q).2 * ((r.corner i).x * p.w - p.x) = L at *
            generalize (iWay p q).1 * ((r.corner (i + 1)).y * p.w - p.y) - (iWay p q).2 * ((r.corner (i + 1)).x * p.w - p.x) = M at *
            repeat walk_at "s"
            refine r_iteB (fun e1 => ?_) fun e1 => ?_
            · repeat walk_at "s"
              refine r_iteB (fun e2 => ?_) fun e2 => ?_
              · rw [e1, e2] at k5
                exact k5
              · repeat walk_at "s"
                refine r_iteB (fun e3 => ?_) fun e3 => ?_
                · repeat walk_at "s"
                  rw [e1, e2, e3] at k5
                  exact k5
                · rw [e1, e2, e3] at k5
                  exact k5
            · repeat walk_at "s"
              refine r_iteB (fun e3 => ?_) fun e3 => ?_
              · repeat walk_at "s"
                rw [e1, e3] at k5
                exact k5
              · rw [e1, e3] at k5
                exact k5
def spClear (K : PySem.W.Frag) : Sp := fun vs H Q _ => ∃ (a b c : Addr) (r : Eh.Room) (p q : Q4), vs = [.ref a, .ref b, .ref c] ∧ RoomAt K H a r ∧ P4 K H b p ∧ P4 K H c q ∧ B4 1000 p ∧ B4 1000 q ∧ 0 < p.w ∧ 0 < q.w ∧ B4 4000 (iBetween p q) ∧ ∀ H', Same H H' → Q (.bl (iClear r p q)) H'
theorem ok_is_clear (T : Tx K mg base) : Cal P w K mg base 8 "is_clear" (spClear K) [] := by
  refine mkC T.f_is_clear T.g_is_clear sc_is_clear (fun _ _ _ _ _ _ us hl => match us, hl with | [_, _, _], _ => rfl) (fun vs H Q E h => ?_) (fun f cdv A outer s H vs Q E hr h => ⟨_, (pss_cons (ps_if (pt_cmpR (r := rEqD K) (op_eqD hr.units) (pv 1) (pv 2) (nomark _)) (pss_one (ps_ret pe_bl)) pss_nil)
      (pss_cons (ps_set (i := 3) sc_is_clear.nd rfl (Or.inl rfl) (pe_c (ok_between T) hr (by decide) rfl (pa_cons (pv 1) (pa_cons (pv 2) pa_nil))))
      (pss_cons (ps_if (pt_not (pt_val (pe_mt (ok_Room_is_inside T) hr (by decide) (pv 0) (pa_cons (pv 3) pa_nil)))) (pss_one (ps_ret pe_bl)) pss_nil)
      (pss_cons (ps_if (pt_cmpR (r := rEqD K) (op_eqD hr.units) (pe_c (ok_direction T) hr (by decide) rfl (pa_cons (pv 1) (pa_cons (pv 2) pa_nil))) (pe_tup (pa_cons pe_int (pa_cons pe_int pa_nil))) (nomark _)) (pss_one (ps_ret pe_bl)) pss_nil)
      (pss_one (ps_ret (pe_not (pe_callB (cr_any rfl) (by rfl) T.n_any (by decide +kernel) (pa_cons (pe_lc (own := [("i", 4)]) rfl sc_is_clear.nd (pi_range1 (by rfl) T.n_range (pa_cons (pe_mt0 (ok_Room_many T) hr (by decide) (pv 0)) pa_nil)) (blkOk_by (own := [("i", 4)]) (N := ["room", "one", "other", "middle", "i"]) (sc := defScope s_is_clear) (by decide +kernel)) (fun _ _ _ _ _ => (pg_name (i := 4) sc_is_clear.nd rfl (Or.inl rfl))) (fun _ _ _ _ _ => pts_nil) (fun _ _ _ _ _ => (pe_c (ok_is_blocked T) hr (by decide) rfl (pa_cons (pv 0) (pa_cons (pv 4) (pa_cons (pv 1) (pa_cons (pv 2) pa_nil))))))) pa_nil))))))))), ?_⟩)
  · obtain ⟨a, b, c, r, p, q, rfl, _⟩ := h
    rfl
  · obtain ⟨a, b, c, r, p, q, rfl, hR, hb, hc, bp, bq, p0, q0, bm, k⟩ := h
    have n64 := hR.rw_.n64
    walk_at "d"
    repeat walk_at "s"
    refine r_eqTs (ns := [p.x, p.y, p.z, p.w]) (ms := [q.x, q.y, q.z, q.w]) hb hc rfl rfl ?_
    repeat walk_at "s"
    refine r_iteB (fun c1 => ?_) fun c1 => ?_
    · have e : p = q := by
        have := of_decide_eq_true c1
        obtain ⟨x, y, z, w⟩ := p
        obtain ⟨x', y', z', w'⟩ := q
        simp at this
        obtain ⟨rfl, rfl, rfl, rfl⟩ := this
        rfl
      repeat walk_at "s"
      have k2 := k _ (Same.refl H)
      rw [show iClear r p q = true from if_pos e] at k2
      exact k2
    · have ne : ¬ p = q := fun e => of_decide_eq_false c1 (by rw [e])
      have k1 : ∀ H', Same H H' → Q (.bl (if iInside r (iBetween p q) = false then false else if iWay p q = (0, 0) then true else !((List.range r.n).any fun i => iBlocked r i p q))) H' := fun H' S' => by
        have k2 := k _ S'
        unfold iClear at k2
        rw [if_neg ne] at k2
        exact k2
      clear k
      repeat walk_at "s"
      refine ⟨b, c, p, q, rfl, hb, hc, bp, bq, p0, q0, fun H1 t1 S1 ht1 => ?_⟩
      have hR1 := hR.same S1
      repeat walk_at "s"
      refine ⟨a, t1, r, _, rfl, hR1, ht1, bm, fun H2 S2 => ?_⟩
      have S2 := S1.trans S2
      have hR2 := hR.same S2
      repeat walk_at "s"
      refine r_iteB (fun c2 => ?_) fun c2 => ?_
      · have e2 : iInside r (iBetween p q) = false := by simpa using c2
        repeat walk_at "s"
        have k2 := k1 _ S2
        rw [if_pos e2] at k2
        exact k2
      · have e2 : ¬ iInside r (iBetween p q) = false := by simpa using c2
        repeat walk_at "s"
        refine ⟨b, c, p, q, rfl, S2.tup hb, S2.tup hc, bp, bq, fun H3 t3 S3 ht3 => ?_⟩
        have S3 := S2.trans S3
        repeat walk_at "s"
        refine ⟨sz2, fun t4 ht4 => ?_⟩
        have S4 := S3.trans (same_new (o := .tup [V.int 0, V.int 0]) ht4)
        have ht3 := (same_new (o := .tup [V.int 0, V.int 0]) ht4).tup ht3
        have hz : SqT K (upd H3 t4 (.tup [V.int 0, V.int 0])) t4 [V.int 0, V.int 0] := SqT.of upd_same
        generalize upd H3 t4 (.tup [V.int 0, V.int 0]) = H4 at *
        refine r_eqTs (ns := [(iWay p q).1, (iWay p q).2]) (ms := [0, 0]) ht3 hz rfl rfl ?_
        repeat walk_at "s"
        refine r_iteB (fun c3 => ?_) fun c3 => ?_
        · have e3 : iWay p q = (0, 0) := by
            have := of_decide_eq_true c3
            simp at this
            exact Prod.ext this.1 this.2
          repeat walk_at "s"
          have k2 := k1 _ S4
          rw [if_neg e2, if_pos e3] at k2
          exact k2
        · have e3 : ¬ iWay p q = (0, 0) := fun z => of_decide_eq_false c3 (by rw [z])
          have hR4 := hR.same S4
          repeat walk_at "s"
          refine ⟨a, r, rfl, hR4, ?_⟩
          refine ⟨_, rfl, by omega, by omega, fun D hD => ?_⟩
          rw [show ((r.n : Int)).toNat = r.n from Int.toNat_natCast _]
          refine lcRangeV (lo := 0) (n := r.n) (f := fun x => .bl (iBlocked r (natV x) p q)) (p := fun _ => true) hD (by omega) (fun i H5 G F hi S5 h1 h2 => ?_) (fun H5 S5 e => ?_)
          · rw [Int.zero_add] at h2 ⊢
            refine ⟨rfl, ?_⟩
            refine r_yes ?_
            refine r_itT rfl ?_
            have S5' := S4.trans S5
            repeat walk_at "s"
            exact ⟨a, b, c, r, i, p, q, rfl, hR.same S5', S5'.tup hb, S5'.tup hc, bp, bq, fun H6 S6 => h2 rfl _ S6⟩
          · rw [rg_bl fun i => iBlocked r i p q] at e
            repeat walk_at "s"
            refine ⟨_, _, rfl, SqL.of e, ?_⟩
            repeat walk_at "s"
            have k2 := k1 _ (S4.trans S5)
            rw [if_neg e2, if_neg e3] at k2
            have ea : ((List.range r.n).map fun i => iBlocked r i p q).any id = (List.range r.n).any fun i => iBlocked r i p q := by
              rw [List.any_map]
              rfl
            rw [ea]
            exact k2
end
end Rt
set_option Elab.async false
set_option linter.all false
set_option maxRecDepth 100000
set_option maxHeartbeats 4000000
namespace Rt
open PySem PySem.Spec PyProof.Rows L2
/-! ### list(zip(a, b)) -/
theorem zip_no_len : typeLookup (.type "zip") "__len__" = pure none := by rw [typeLookup_type, builtinLookup_eq_fast]; kernel_rfl
theorem zip_no_hint : typeLookup (.type "zip") "__length_hint__" = pure none := by rw [typeLookup_type, builtinLookup_eq_fast]; kernel_rfl
/-- how a zip stands after i turns, the list S being made -/
structure ZSt (h : Heap) (z TI TO i1 i2 l1 l2 S : Addr) (xs ys : Array Value) (i : Nat) : Prop where
  ti : IsPair h TI (.ref i1) (.ref i2)
  h1 : h.IsListIter i1 l1 i
  h2 : h.IsListIter i2 l2 i
  g1 : h.IsList l1 xs
  g2 : h.IsList l2 ys
  zz : (IsZip h z TI TO .none ∧ ∃ a b, IsPair h TO a b) ∨ ∃ T f oT, IsZipHeld h z TI TO T f ∧ h.get? T = some oT ∧ T ≠ z ∧ T ≠ i1 ∧ T ≠ i2 ∧ T ≠ S
structure ZOff (z TI TO i1 i2 l1 l2 S : Addr) : Prop where
  nz : z ≠ S
  nTI : TI ≠ S
  nTO : TO ≠ S
  n1 : i1 ≠ S
  n2 : i2 ≠ S
  m1 : l1 ≠ S
  m2 : l2 ≠ S
section
variable {prog : Program} {w : World} {A : Around} {E : Value → Shared → Prop} {s : Shared} {z TI TO i1 i2 l1 l2 S : Addr} {xs ys : Array Value} {i : Nat}
theorem ZSt.keep {h h' : Heap} (t : ZSt h z TI TO i1 i2 l1 l2 S xs ys i) (o : ZOff z TI TO i1 i2 l1 l2 S) (k : ∀ b u, b ≠ S → h.get? b = some u → h'.get? b = some u) : ZSt h' z TI TO i1 i2 l1 l2 S xs ys i := by
  obtain ⟨hTI, h1, h2, hl1, hl2, hz⟩ := t
  refine ⟨k _ _ o.nTI hTI, h1.at fun u e => k _ u o.n1 e, h2.at fun u e => k _ u o.n2 e, hl1.at fun u e => k _ u o.m1 e, hl2.at fun u e => k _ u o.m2 e, ?_⟩
  rcases hz with ⟨hz, a, b, hTO⟩ | ⟨T, f, oT, hz, hT, r1, r2, r3, r4⟩
  · exact .inl ⟨k _ _ o.nz hz, a, b, k _ _ o.nTO hTO⟩
  · exact .inr ⟨T, f, oT, k _ _ o.nz hz, k _ _ r4 hT, r1, r2, r3, r4⟩
theorem zst_item {x y : Value} {Q : Option Value → Shared → Prop} (D : ZipApart z TI TO i1 i2 l1 l2) (t : ZSt s.heap z TI TO i1 i2 l1 l2 S xs ys i) (hS : S < s.heap.objs.size) (ex : xs[i]? = some x) (ey : ys[i]? = some y)
    (hQ : ∀ h', ZSt h' z TI TO i1 i2 l1 l2 S xs ys (i + 1) → IsPair h' s.heap.objs.size x y → h'.objs.size = s.heap.objs.size + 1 → (∀ c o, c ≠ z → c ≠ TO → c ≠ i1 → c ≠ i2 → s.heap.get? c = some o → h'.get? c = some o) → Q (some (.ref s.heap.objs.size)) { s with heap := h' }) :
    wpAny (model prog w) A (pyNext (.ref z)) Q E s := by
  obtain ⟨hTI, h1, h2, hl1, hl2, hz⟩ := t
  have lt : ∀ {c o}, s.heap.get? c = some o → s.heap.objs.size ≠ c := fun e => Nat.ne_of_gt (Heap.lt_size e)
  have n1 : s.heap.objs.size ≠ i1 := let ⟨_, e, _⟩ := h1; lt e
  have n2 : s.heap.objs.size ≠ i2 := let ⟨_, e, _⟩ := h2; lt e
  rcases hz with ⟨hz, a, b, hTO⟩ | ⟨T, f, oT, hz, hT, r1, r2, r3, r4⟩
  · refine wpAny_pyNext_zip_item D hz hTI hTO h1 h2 hl1 hl2 ex ey fun h' a1 a2 a3 a4 a5 a6 hk => ?_
    exact hQ h' ⟨hk _ _ D.TIz D.TITO D.TIi1 D.TIi2 hTI, a3, a4, hl1.at fun o e => hk _ o D.l1z D.l1TO D.l1i1 D.l1i2 e, hl2.at fun o e => hk _ o D.l2z D.l2TO D.l2i1 D.l2i2 e, .inr ⟨s.heap.objs.size, false, _, a1, a5, lt hz, n1, n2, Nat.ne_of_gt hS⟩⟩ a5 a6 hk
  · refine wpAny_pyNext_zip_item_held D hz hT hTI h1 h2 hl1 hl2 ex ey fun h' a1 a3 a4 a5 a6 hk => ?_
    exact hQ h' ⟨hk _ _ D.TIz D.TIi1 D.TIi2 hTI, a3, a4, hl1.at fun o e => hk _ o D.l1z D.l1i1 D.l1i2 e, hl2.at fun o e => hk _ o D.l2z D.l2i1 D.l2i2 e, .inr ⟨T, true, oT, a1, hk _ _ r1 r2 r3 hT, r1, r2, r3, r4⟩⟩ a5 a6 fun c o c1 _ c3 c4 e => hk c o c1 c3 c4 e
theorem zst_done {Q : Option Value → Shared → Prop} (hh : A.handled = none) (D : ZipApart z TI TO i1 i2 l1 l2) (t : ZSt s.heap z TI TO i1 i2 l1 l2 S xs ys i) (hend : xs[i]? = none ∨ ys[i]? = none)
    (hQ : ∀ h', (∀ c o, c ≠ z → c ≠ TO → c ≠ i1 → c ≠ i2 → s.heap.get? c = some o → h'.get? c = some o) → Q none { s with heap := h' }) : wpAny (model prog w) A (pyNext (.ref z)) Q E s := by
  obtain ⟨hTI, h1, h2, hl1, hl2, hz⟩ := t
  rcases hz with ⟨hz, a, b, hTO⟩ | ⟨T, f, oT, hz, hT, r1, r2, r3, r4⟩
  · exact wpAny_pyNext_zip_end hh D hz hTI hTO h1 h2 hl1 hl2 hend hQ
  · exact wpAny_pyNext_zip_end_held hh D hz hT hTI h1 h2 hl1 hl2 hend fun h' hk => hQ h' fun c o c1 _ c3 c4 e => hk c o c1 c3 c4 e
/-- the pairs so far -/
structure ZG (xs ys : Array Value) (lo : Addr) (h : Heap) (as : List Addr) : Prop where
  rise : as.Pairwise (· < ·)
  above : ∀ a ∈ as, lo ≤ a
  pairs : ∀ (j : Nat) (a : Addr), as[j]? = some a → ∃ x y, xs[j]? = some x ∧ ys[j]? = some y ∧ IsPair h a x y
theorem ZG.there {lo : Addr} {h : Heap} {as : List Addr} (g : ZG xs ys lo h as) {a : Addr} (ha : a ∈ as) : a < h.objs.size := by
  obtain ⟨j, hj⟩ := List.mem_iff_getElem?.mp ha
  obtain ⟨_, _, _, _, e⟩ := g.pairs j a hj
  exact Heap.lt_size e
theorem ZG.low {lo lo' : Addr} {h : Heap} {as : List Addr} (g : ZG xs ys lo h as) (hl : lo' ≤ lo) : ZG xs ys lo' h as := ⟨g.rise, fun a ha => Nat.le_trans hl (g.above a ha), g.pairs⟩
theorem zst_loop {R : Result → Shared → Prop} {lo n : Nat} (hh : A.handled = none) (D : ZipApart z TI TO i1 i2 l1 l2) (O : ZOff z TI TO i1 i2 l1 l2 S) (lz : z < lo) (lTO : TO < lo) (li1 : i1 < lo) (li2 : i2 < lo) (lS : S < lo) (hx : xs.size = n) (hy : ys.size = n) (hn : n ≤ sizeLine) (res : Value) {h₁ : Heap}
    (hR : ∀ h' tk acc c as, (∀ b o, b ≠ S → b ≠ z → b ≠ TO → b ≠ i1 → b ≠ i2 → h₁.get? b = some o → h'.get? b = some o) → h'.get? S = some { cls := .type "list", dict := none, data := .seq acc c, slots := #[] } → as.length = n → ZG xs ys lo h' as →
      acc.toList = as.map Value.ref → R (.ok (.ret res)) { s with heap := h', toks := tk }) :
    ∀ (k i : Nat) (h : Heap) (tk c : Nat) (acc : Array Value) (as : List Addr), n - i = k → i ≤ n → ZSt h z TI TO i1 i2 l1 l2 S xs ys i → (∀ b o, b ≠ S → b ≠ z → b ≠ TO → b ≠ i1 → b ≠ i2 → h₁.get? b = some o → h.get? b = some o) →
      h.get? S = some { cls := .type "list", dict := none, data := .seq acc c, slots := #[] } → acc.toList = as.map Value.ref → as.length = i → ZG xs ys lo h as → lo ≤ h.objs.size →
      codeAny (model prog w) A (.builtin "list.extend.loop" ⟨[.ref S, .ref z, res], []⟩) R { s with heap := h, toks := tk } := by
  have ng : ∀ {c b : Addr}, c < lo → lo ≤ b → b ≠ c := fun h1 h2 => Nat.ne_of_gt (Nat.lt_of_lt_of_le h1 h2)
  intro k
  induction k with
  | zero =>
    intro i h tk c acc as hk hi hst hkeep hS hacc hal hG hIs
    have hin : i = n := by omega
    refine codeAny_builtin PySem.F.entry_extend_loop ?_
    rw [Around.under_plainId PySem.F.plain_extend_loop _]
    show wpAny _ A.in1 (pyNext (.ref z) >>= _) _ _ _
    refine wpAny_bind (zst_done (s := { s with heap := h, toks := tk }) (A := A.in1) hh D hst (.inl (Array.getElem?_eq_none (by omega))) fun h' he => ?_)
    refine wpAny_pure (hR h' tk acc c as (fun b o c0 c1 c2 c3 c4 e => he b o c1 c2 c3 c4 (hkeep b o c0 c1 c2 c3 c4 e)) (he S _ O.nz.symm O.nTO.symm O.n1.symm O.n2.symm hS) (by omega) ⟨hG.rise, hG.above, fun j a hj => ?_⟩ hacc)
    obtain ⟨x, y, e1, e2, e3⟩ := hG.pairs j a hj
    have ha := hG.above a (List.mem_of_getElem? hj)
    exact ⟨x, y, e1, e2, he a _ (ng lz ha) (ng lTO ha) (ng li1 ha) (ng li2 ha) e3⟩
  | succ k ih =>
    intro i h tk c acc as hk hi hst hkeep hS hacc hal hG hIs
    have hlt : i < n := by omega
    have ex : xs[i]? = some xs[i] := Array.getElem?_eq_getElem (by omega)
    have ey : ys[i]? = some ys[i] := Array.getElem?_eq_getElem (by omega)
    have hsz : acc.size = i := by rw [← Array.length_toList, hacc, List.length_map, hal]
    refine codeAny_builtin PySem.F.entry_extend_loop ?_
    rw [Around.under_plainId PySem.F.plain_extend_loop _]
    show wpAny _ A.in1 (pyNext (.ref z) >>= _) _ _ _
    refine wpAny_bind (zst_item (s := { s with heap := h, toks := tk }) (S := S) D hst (Heap.lt_size hS) ex ey fun h' hst' ht hz hkp => ?_)
    dsimp only at ht hz hkp ⊢
    have hS' := hkp S _ O.nz.symm O.nTO.symm O.n1.symm O.n2.symm hS
    have up : ∀ b o, b ≠ S → h'.get? b = some o → (h'.update S (Obj.mapSeq (·.push (Value.ref h.objs.size)))).get? b = some o := fun b o hb e => (Heap.get?_update_other _ _ (Ne.symm hb)).trans e
    have hSl : S < h.objs.size := Heap.lt_size hS
    show wpAny _ A.in1 (updateSeq S (·.push (Value.ref h.objs.size)) >>= _) _ _ _
    refine wpAny_bind ?_
    refine wpAny_updateSeq hS' rfl (wpAny_pure ⟨plainId_quiet PySem.F.plain_extend_loop _, ih (i + 1) _ tk _ (acc.push (Value.ref h.objs.size)) (as ++ [h.objs.size]) (by omega) hlt (hst'.keep O up)
      (fun b o h0 h1 h2 h3 h4 e => up b o h0 (hkp b o h1 h2 h3 h4 (hkeep b o h0 h1 h2 h3 h4 e))) (Heap.get?_update_self _ hS' rfl) (by rw [Array.toList_push, hacc, List.map_append]; rfl) (by rw [List.length_append, hal]; rfl) ⟨?_, ?_, ?_⟩ ?_⟩) (by rw [hsz]; omega) (by show (acc.push (Value.ref h.objs.size)).size ≤ sizeLine + 1; rw [Array.size_push, hsz]; omega)
    · refine List.pairwise_append.mpr ⟨hG.rise, List.pairwise_singleton _ _, fun a ha b hb => ?_⟩
      rw [List.mem_singleton.mp hb]
      exact hG.there ha
    · intro a ha
      rcases List.mem_append.mp ha with ha | ha
      · exact hG.above a ha
      · rw [List.mem_singleton.mp ha]; exact hIs
    · intro j b hj
      rcases Nat.lt_trichotomy j as.length with h1 | h1 | h1
      · rw [List.getElem?_append_left h1] at hj
        obtain ⟨x', y', e1, e2, e3⟩ := hG.pairs j b hj
        have hb := hG.above b (List.mem_of_getElem? hj)
        exact ⟨x', y', e1, e2, up b _ (ng lS hb) (hkp b _ (ng lz hb) (ng lTO hb) (ng li1 hb) (ng li2 hb) e3)⟩
      · subst h1
        have hb : h.objs.size = b := by simpa using hj
        subst hb
        exact ⟨_, _, by rw [hal]; exact ex, by rw [hal]; exact ey, up _ _ (Nat.ne_of_gt hSl) ht⟩
      · have hnone : (as ++ [h.objs.size])[j]? = none := List.getElem?_eq_none (by rw [List.length_append, List.length_singleton]; omega)
        rw [hnone] at hj; cases hj
    · have e : (h'.update S (Obj.mapSeq (·.push (Value.ref h.objs.size)))).get? h.objs.size = _ := up _ _ (Nat.ne_of_gt hSl) ht
      exact Nat.le_trans hIs (Nat.le_of_lt (Heap.lt_size e))
theorem zst_extend {R : Result → Shared → Prop} {n : Nat} (hh : A.handled = none) (D : ZipApart z TI TO i1 i2 l1 l2) (O : ZOff z TI TO i1 i2 l1 l2 S) (t : ZSt s.heap z TI TO i1 i2 l1 l2 S xs ys 0) (lTO : TO < s.heap.objs.size) (hx : xs.size = n) (hy : ys.size = n) (hn : n ≤ sizeLine) (res : Value) (c₀ : Nat)
    (hS : s.heap.get? S = some { cls := .type "list", data := .seq #[] c₀ })
    (hR : ∀ h' tk acc c as, (∀ b o, b ≠ S → b ≠ z → b ≠ TO → b ≠ i1 → b ≠ i2 → s.heap.get? b = some o → h'.get? b = some o) → h'.get? S = some { cls := .type "list", dict := none, data := .seq acc c, slots := #[] } → as.length = n → ZG xs ys s.heap.objs.size h' as →
      acc.toList = as.map Value.ref → R (.ok (.ret res)) { s with heap := h', toks := tk }) :
    wpAny (model prog w) A.in1 (Builtin.List.listExtendWith (.ref S) (.ref z) res)
      (fun fin s' => match fin with | .done f => R (.ok f) s' | .again c' => c'.quiet = true ∧ codeAny (model prog w) A c' R s') (fun e s' => R (.error e) s') s := by
  have hT : s.TypeIs (.ref z) "zip" := by
    rcases t.zz with ⟨hz, _⟩ | ⟨T, f, oT, hz, _⟩
    · exact ⟨_, hz, rfl⟩
    · exact ⟨_, hz, rfl⟩
  have lz : z < s.heap.objs.size := let ⟨_, e, _⟩ := hT; Heap.lt_size e
  have li1 : i1 < s.heap.objs.size := let ⟨_, e, _⟩ := t.h1; Heap.lt_size e
  have li2 : i2 < s.heap.objs.size := let ⟨_, e, _⟩ := t.h2; Heap.lt_size e
  have lS : S < s.heap.objs.size := Heap.lt_size hS
  have key : ∀ (h : Heap) (c₁ tk : Nat), h.objs.size = s.heap.objs.size → (∀ b o, b ≠ S → s.heap.get? b = some o → h.get? b = some o) →
      h.get? S = some { cls := .type "list", data := .seq #[] c₁ } → codeAny (model prog w) A (.builtin "list.extend.loop" ⟨[.ref S, .ref z, res], []⟩) R { s with heap := h, toks := tk } := by
    intro h c₁ tk hsz hk hS₁
    exact zst_loop (s := s) (lo := s.heap.objs.size) (h₁ := s.heap) hh D O lz lTO li1 li2 lS hx hy hn res hR n 0 h tk c₁ #[] [] (Nat.sub_zero _) (Nat.zero_le _) (t.keep O hk) (fun b o c0 _ _ _ _ e => hk b o c0 e) hS₁ rfl rfl ⟨List.Pairwise.nil, (fun _ ha => nomatch ha), (fun j a hj => by simp at hj)⟩ (by omega)
  unfold Builtin.List.listExtendWith
  refine wpAny_bind (wpAny_typeOf (T := "zip") hT ?_)
  have h1 : Builtin.List.listSameRef (.ref S) (.ref z) = false := by simp [Builtin.List.listSameRef, O.nz.symm]
  have h2 : (Value.type "zip" == Value.type "list") = false := by decide
  have h3 : (Value.type "zip" == Value.type "tuple") = false := by decide
  simp only [h1, h2, h3, Bool.or_false, Bool.false_eq_true, if_false]
  refine wpAny_bind ?_
  have it : wpAny (model prog w) A.in1 (pyIter (.ref z)) (fun v s' => v = .ref z ∧ s' = s) (fun e s' => R (.error e) s') s := by
    rcases t.zz with ⟨hz, _⟩ | ⟨T, f, oT, hz, _⟩
    · exact wpAny_pyIter_zip hz ⟨rfl, rfl⟩
    · have hTy := hT
      refine wpAny_pyIter_slot hTy PySem.F.slot_zip_iter (wpAny_call_entry PySem.F.slot_zip_iter hTy PySem.F.entry_zip_iter ?_ (PySem.F.args_zip_iter_1 _))
      show wpAny _ _ (ret (.ref z)) _ _ s
      exact wpAny_pure ⟨_, rfl, "zip", _, hTy, PySem.F.slot_zip_next.lookup, rfl, rfl⟩
  refine thn it ?_
  rintro _ _ ⟨rfl, rfl⟩
  refine wpAny_bind (wpAny_holding ?_)
  unfold Builtin.List.listLengthHint
  refine wpAny_bind (wpAny_specialOf hT zip_no_len ?_)
  show wpAny _ A.in1 (specialOf (Value.ref z) (Str.ofString "__length_hint__") >>= _) _ _ _
  refine wpAny_bind (wpAny_specialOf hT zip_no_hint ?_)
  refine wpAny_pure ?_
  show wpAny _ A.in1 (rule "list.extend.makes-room" >>= fun _ => Builtin.List.listTouch (.ref S) >>= fun _ =>
    again (.builtin "list.extend.loop" ⟨[.ref S, .ref z, res], []⟩)) _ _ _
  refine wpAny_bind (wpAny_rule ?_)
  refine wpAny_bind ?_
  show wpAny _ A.in1 (updateSeq S (·.push .none) >>= fun _ => updateSeq S (·.pop)) _ _ _
  refine wpAny_bind (wpAny_updateSeq hS rfl ?_)
  have hS₂ := Heap.get?_update_self (Obj.mapSeq (·.push Value.none)) hS rfl
  refine wpAny_updateSeq (hz := by seq_fits) hS₂ rfl ?_
  have hS₃ := Heap.get?_update_self (Obj.mapSeq (·.pop)) hS₂ rfl
  refine wpAny_pure ⟨plainId_quiet PySem.F.plain_extend_loop _, key _ _ _ (by rw [Heap.size_update, Heap.size_update]) (fun b o hb e => ?_) hS₃⟩
  exact (Heap.get?_update_other _ _ (Ne.symm hb)).trans ((Heap.get?_update_other _ _ (Ne.symm hb)).trans e)
theorem zst_init {R : Result → Shared → Prop} {n : Nat} (hh : A.handled = none) (D : ZipApart z TI TO i1 i2 l1 l2) (O : ZOff z TI TO i1 i2 l1 l2 S) (t : ZSt s.heap z TI TO i1 i2 l1 l2 S xs ys 0) (lTO : TO < s.heap.objs.size) (hx : xs.size = n) (hy : ys.size = n) (hn : n ≤ sizeLine)
    (hS : s.heap.get? S = some { cls := .type "list", data := .seq #[] })
    (hR : ∀ h' tk acc c as, (∀ b o, b ≠ S → b ≠ z → b ≠ TO → b ≠ i1 → b ≠ i2 → s.heap.get? b = some o → h'.get? b = some o) → h'.get? S = some { cls := .type "list", dict := none, data := .seq acc c, slots := #[] } → as.length = n → ZG xs ys s.heap.objs.size h' as →
      acc.toList = as.map Value.ref → R (.ok (.ret .none)) { s with heap := h', toks := tk }) :
    wpAny (model prog w) A.in1 (Builtin.«list.__init__» ⟨[.ref S, .ref z], []⟩)
      (fun fin s' => match fin with | .done f => R (.ok f) s' | .again c' => c'.quiet = true ∧ codeAny (model prog w) A c' R s') (fun e s' => R (.error e) s') s := by
  show wpAny _ _ (do let old ← Builtin.List.listItems (.ref S); Builtin.List.listUpdate (.ref S) (fun _ => #[]); letGo old.toList.reverse; Builtin.List.listExtendWith (.ref S) (.ref z) .none) _ _ s
  refine wpAny_bind ?_
  unfold Builtin.List.listItems
  refine wpAny_bind (wpAny_seqItems hS rfl (wpAny_pure ?_))
  show wpAny _ _ (updateSeq S (fun _ => #[]) >>= fun _ => letGo (#[] : Array Value).toList.reverse >>= fun _ => Builtin.List.listExtendWith (.ref S) (.ref z) .none) _ _ s
  refine wpAny_bind (wpAny_updateSeq hS rfl ?_)
  have hS₂ := Heap.get?_update_self (Obj.mapSeq (fun _ => (#[] : Array Value))) hS rfl
  have oth : ∀ b o, b ≠ S → s.heap.get? b = some o → (s.heap.update S (Obj.mapSeq (fun _ => (#[] : Array Value)))).get? b = some o :=
    fun b o hb e => (Heap.get?_update_other _ _ (Ne.symm hb)).trans e
  refine wpAny_bind (wpAny_letGo ?_)
  refine zst_extend (s := { s with heap := s.heap.update S (Obj.mapSeq (fun _ => (#[] : Array Value))) }) hh D O (t.keep O oth) (by rw [Heap.size_update]; exact lTO) hx hy hn .none _ hS₂ (fun h' tk acc c as hk hS' hl hG hacc => ?_)
  exact hR h' tk acc c as (fun b o c0 c1 c2 c3 c4 e => hk b o c0 c1 c2 c3 c4 (oth b o c0 e)) hS' hl (hG.low (by dsimp only; rw [Heap.size_update]; exact Nat.le_refl _)) hacc
theorem zst_call {Q : Value → Shared → Prop} {n : Nat} (hh : A.handled = none) (D : ZipApart z TI TO i1 i2 l1 l2) (t : ∀ S, S = s.heap.objs.size → ZSt s.heap z TI TO i1 i2 l1 l2 S xs ys 0) (lTO : TO < s.heap.objs.size) (hx : xs.size = n) (hy : ys.size = n) (hn : n ≤ sizeLine)
    (hQ : ∀ h' tk acc c as, (∀ b o, b ≠ z → b ≠ TO → b ≠ i1 → b ≠ i2 → s.heap.get? b = some o → h'.get? b = some o) → h'.get? s.heap.objs.size = some { cls := .type "list", dict := none, data := .seq acc c, slots := #[] } → as.length = n → ZG xs ys (s.heap.objs.size + 1) h' as →
      acc.toList = as.map Value.ref → Q (.ref s.heap.objs.size) { s with heap := h', toks := tk }) :
    wpAny (model prog w) A (call (.type "list") [.ref z]) Q E s := by
  refine callType_codes (Q₁ := fun obj s₁ => obj = .ref s.heap.objs.size ∧ s₁ = { s with heap := s.heap.push { cls := .type "list", data := .seq #[] } }) PySem.F.called_list (PySem.F.typeCall_list_1 _) PySem.F.entry_list_init
    (code_list_new _ ⟨rfl, rfl⟩) fun obj s₁ h₁ => ?_
  obtain ⟨rfl, rfl⟩ := h₁
  have hS : (s.heap.push { cls := .type "list", data := .seq #[] }).get? s.heap.objs.size = some { cls := .type "list", data := .seq #[] } := Heap.get?_push_size _ rfl
  have t0 := t _ rfl
  have lz : z < s.heap.objs.size := by
    rcases t0.zz with ⟨hz, _⟩ | ⟨T, f, oT, hz, _⟩
    · exact Heap.lt_size hz
    · exact Heap.lt_size hz
  have li1 : i1 < s.heap.objs.size := let ⟨_, e, _⟩ := t0.h1; Heap.lt_size e
  have li2 : i2 < s.heap.objs.size := let ⟨_, e, _⟩ := t0.h2; Heap.lt_size e
  have lm1 : l1 < s.heap.objs.size := let ⟨_, e, _⟩ := t0.g1; Heap.lt_size e
  have lm2 : l2 < s.heap.objs.size := let ⟨_, e, _⟩ := t0.g2; Heap.lt_size e
  have lTI : TI < s.heap.objs.size := Heap.lt_size t0.ti
  have O : ZOff z TI TO i1 i2 l1 l2 s.heap.objs.size := ⟨Nat.ne_of_lt lz, Nat.ne_of_lt lTI, Nat.ne_of_lt lTO, Nat.ne_of_lt li1, Nat.ne_of_lt li2, Nat.ne_of_lt lm1, Nat.ne_of_lt lm2⟩
  refine ⟨⟨_, hS, rfl⟩, PySem.F.args_list_init_2 _ _, zst_init (s := { s with heap := s.heap.push { cls := .type "list", data := .seq #[] } }) (A := A.in1) hh D O (t0.keep O fun b u _ e => Heap.get?_push_of_some _ e) (by rw [Heap.size_push]; exact Nat.lt_succ_of_lt lTO) hx hy hn hS (fun h' tk acc c as hk hS' hl hG hacc => ?_)⟩
  refine ⟨rfl, hQ h' tk acc c as (fun b o c1 c2 c3 c4 e => hk b o (Nat.ne_of_lt (Heap.lt_size e)) c1 c2 c3 c4 (Heap.get?_push_of_some _ e)) hS' hl (hG.low ?_) hacc⟩
  dsimp only
  rw [Heap.size_push]
  exact Nat.le_refl _
end
end Rt
set_option Elab.async false
set_option linter.all false
set_option maxRecDepth 100000
set_option maxHeartbeats 4000000
namespace Rt
open PySem PySem.Spec PyProof.Rows L2
section
variable {X : Cx} {pins : List (Addr × Obj)} {σ : List (Option V)}
/-- new tuples and a list of them, tracked -/
theorem laidMany {h' : Heap} {t' : Nat} {S : Addr} {vs : List V} (hl : vs.length ≤ sizeLine) (its : List Value) (nn : Nat) (rv : Vals vs its) (hS : h'.get? S = some { cls := .type "list", data := .seq its.toArray nn }) :
    ∀ (as : List Addr) (ps : List (V × V)) (H : Hp) (s : Shared), Inv X pins σ H s → (∀ b u, s.heap.get? b = some u → h'.get? b = some u) → as.length = ps.length → as.Nodup → S ∉ as → (∀ a ∈ as, s.heap.get? a = none ∧ H a = none) → s.heap.get? S = none → H S = none →
      (∀ (j : Nat) (a : Addr) (x y : V), as[j]? = some a → ps[j]? = some (x, y) → ∃ u v, RelV x u ∧ RelV y v ∧ IsPair h' a u v) →
      ∃ H', Same H H' ∧ Inv X pins σ H' { s with heap := h', toks := t' } ∧ H' S = some (.lst vs) ∧ ∀ (j : Nat) (a : Addr) (x y : V), as[j]? = some a → ps[j]? = some (x, y) → H' a = some (.tup [x, y])
  | [], ps, H, s, I, k, e, _, _, _, g, n, _ => ⟨upd H S (.lst vs), same_new n, I.laidN k g n (show ObjOk X.prog X.w (upd H S (.lst vs)) h' S (.lst vs) from ⟨hl, its, nn, rv, hS⟩), upd_same, fun j a x y q => by simp at q⟩
  | a :: r, [], H, s, I, k, e, _, _, _, g, n, _ => by simp at e
  | a :: r, (x, y) :: ps, H, s, I, k, e, nd, nS, fr, g, n, c => by
    obtain ⟨u, v, ru, rv', hp⟩ := c 0 a x y rfl rfl
    obtain ⟨G, g1, g2⟩ := restrict h' fun b => decide (b = a) || (s.heap.get? b).isSome
    obtain ⟨fa, fH⟩ := fr a List.mem_cons_self
    have nda := (List.nodup_cons.mp nd)
    have Ga : G.get? a = h'.get? a := g1 a (by simp)
    have Gk : ∀ b o, s.heap.get? b = some o → G.get? b = some o := fun b o q => by
      rw [g1 b (by simp [q])]
      exact k b o q
    have Gs : ∀ b o, G.get? b = some o → h'.get? b = some o := fun b o q => by
      cases z : (decide (b = a) || (s.heap.get? b).isSome) with
      | true =>
        rw [← g1 b z]
        exact q
      | false =>
        rw [g2 b z] at q
        cases q
    have Gn : ∀ b, b ≠ a → s.heap.get? b = none → G.get? b = none := fun b q1 q2 => g2 b (by simp [q1, q2])
    have I1 : Inv X pins σ (upd H a (.tup [x, y])) { s with heap := G, toks := t' } := I.laidN Gk fa fH (show ObjOk X.prog X.w (upd H a (.tup [x, y])) G a (.tup [x, y]) from
      ⟨by show 2 ≤ sizeLine; decide, [u, v], .cons ru (.cons rv' .nil), ⟨_, Ga.trans hp, rfl, _, rfl⟩⟩)
    have nSa : S ≠ a := fun q => nS (by rw [q]; exact List.mem_cons_self)
    obtain ⟨H', q1, q2, q3, q4⟩ := laidMany hl its nn rv hS r ps (upd H a (.tup [x, y])) { s with heap := G, toks := t' } I1 Gs (by simpa using e) nda.2 (fun q => nS (List.mem_cons_of_mem _ q)) (fun b hb => by
      have ne : b ≠ a := fun q => nda.1 (q ▸ hb)
      obtain ⟨b1, b2⟩ := fr b (List.mem_cons_of_mem _ hb)
      exact ⟨Gn b ne b1, by rw [upd_ne ne]; exact b2⟩) (Gn S nSa g) (by rw [upd_ne nSa]; exact n) (fun j b x y e1 e2 => c (j + 1) b x y e1 e2)
    refine ⟨H', (same_new fH).trans q1, q2, q3, fun j b x' y' e1 e2 => ?_⟩
    cases j with
    | zero =>
      cases e1
      cases e2
      exact q1 _ _ upd_same
    | succ j => exact q4 j b x' y' e1 e2
def tLstZip (K : PySem.W.Frag) (ta : TA) : TE := fun σ H Q => ta σ H fun vs H1 => ∃ (a b : Addr) (xs ys : List V), vs = [.ref a, .ref b] ∧ SqL K H1 a xs ∧ SqL K H1 b ys ∧ xs.length = ys.length ∧
  ∀ (H' : Hp) (p : Addr) (as : List Addr), Same H1 H' → H' p = some (.lst (as.map V.ref)) → as.length = xs.length → (∀ (j : Nat) (a : Addr), as[j]? = some a → ∃ x y, xs[j]? = some x ∧ ys[j]? = some y ∧ H' a = some (.tup [x, y])) → Q (.ref p) H'
theorem pe_listZip {e e2 : Expr} {ta : TA} {p p2 pos pos2 : Pos} (hc : X.calm = true) (hg : Gl X "list") (hm : X.mg "list" = none) (hg2 : Gl X "zip") (hm2 : X.mg "zip" = none) (ha : PA X [e, e2] ta)
    (hs : starEach [e, e2] X.env = (false, eval e X.env) :: starEach [e2] X.env := by rfl) (hpl : (backTo pos (starEach [e2] X.env)).any (·.1) = false := by rfl)
    (na : starEach [Expr.Call (.Name "zip" p) [e, e2] [] pos] X.env = (false, eval (.Call (.Name "zip" p) [e, e2] [] pos) X.env) :: starEach [] X.env := by rfl) :
    PE X (.Call (.Name "list" p2) [.Call (.Name "zip" p) [e, e2] [] pos] [] pos2) (tLstZip X.K ta) := by
  refine ⟨fun pins s σ H Q I h => ?_⟩
  refine Call_ (ld_blt I hg hm boot_list (PyProof.Rows.callWith_type1 (args_cons ?_ na) na))
  refine Call_ (ld_blt I hg2 hm2 PyProof.Rows.boot_zip (PyProof.Rows.callWith_type1 (thn (ha.run pos pins s σ H _ I h) fun us s1 ⟨vs, H1, I1, r1, q1⟩ => ?_) hs hpl))
  obtain ⟨a, b, xs, ys, ex, hqx, hqy, hlen, q⟩ := q1
  subst ex
  cases r1 with
  | cons r rr =>
  cases rr with
  | cons r' rr =>
  cases rr
  cases r
  cases r'
  obtain ⟨its, rv, p1, hz1⟩ := I1.list hqx
  obtain ⟨its2, rv2, p2', hz2⟩ := I1.list hqy
  have la : a < s1.heap.objs.size := p1.lt
  have lb : b < s1.heap.objs.size := p2'.lt
  refine call_zip_2 p1.isList p2'.isList fun h' hz hTI hTO h1 h2 hsz hk => ?_
  refine args_nil ?_
  have e1 := rv.length
  have e2 := rv2.length
  have sz1 : its.toArray.size = xs.length := by rw [List.size_toArray]; omega
  have sz2 : its2.toArray.size = xs.length := by rw [List.size_toArray]; omega
  refine zst_call (s := { s1 with heap := h' }) (n := xs.length) (I1.ok.hd hc) (PySem.W.ktu_apart s1.heap.objs.size a b la lb) (fun S hS => ⟨hTI, h1, h2, p1.isList.at fun o e => hk _ o e, p2'.isList.at fun o e => hk _ o e, .inl ⟨hz, _, _, hTO⟩⟩) (Heap.lt_size hTO) sz1 sz2 (by omega) fun h2' tk acc c as hk2 hS hl hG hacc => ?_
  dsimp only at hS hG hk2 ⊢
  have up : ∀ b u, s1.heap.get? b = some u → h2'.get? b = some u := fun b u e => by
    have hb : b < s1.heap.objs.size := Heap.lt_size e
    exact hk2 b u (Nat.ne_of_lt (Nat.lt_add_right 4 hb)) (Nat.ne_of_lt (Nat.lt_add_right 3 hb)) (Nat.ne_of_lt hb) (Nat.ne_of_lt (Nat.lt_add_right 1 hb)) (hk b u e)
  have low : ∀ c, s1.heap.objs.size ≤ c → s1.heap.get? c = none := fun c hc => by
    cases z : s1.heap.get? c with
    | none => rfl
    | some o => exact absurd (Heap.lt_size z) (Nat.not_lt.mpr hc)
  have fr : ∀ c, h'.objs.size ≤ c → s1.heap.get? c = none ∧ H1 c = none := fun c hc => by
    have : s1.heap.objs.size ≤ c := by
      have := hc
      rw [hsz] at this
      exact Nat.le_trans (Nat.le_add_right _ 5) this
    exact ⟨low c this, I1.hok.fresh this⟩
  have hacc2 : acc = (as.map Value.ref).toArray := by rw [← hacc]
  rw [hacc2] at hS
  obtain ⟨H', s1', I', gS, gT⟩ := laidMany (t' := tk) (S := h'.objs.size) (vs := as.map V.ref) (by rw [List.length_map]; omega) (as.map Value.ref) c (vals_refs as) hS as (List.zip xs ys) H1 s1 I1 up (by rw [List.length_zip]; omega) (hG.rise.imp fun h => Nat.ne_of_lt h)
    (fun hm => absurd (hG.above _ hm) (Nat.not_succ_le_self _)) (fun a ha => fr a (Nat.le_of_succ_le (hG.above a ha))) (fr _ (Nat.le_refl _)).1 (fr _ (Nat.le_refl _)).2 (fun j a x y ea ep => by
      obtain ⟨u, v, f1, f2, f3⟩ := hG.pairs j a ea
      obtain ⟨g1, g2⟩ := List.getElem?_zip_eq_some.mp ep
      obtain ⟨u', hu, ru⟩ := rv.get g1
      obtain ⟨v', hv, rv'⟩ := rv2.get g2
      have eu : u' = u := by
        have : its[j]? = some u := by simpa using f1
        rw [hu] at this
        exact Option.some.inj this
      have ev : v' = v := by
        have : its2[j]? = some v := by simpa using f2
        rw [hv] at this
        exact Option.some.inj this
      subst eu ev
      exact ⟨u', v', ru, rv', f3⟩)
  refine ⟨.ref h'.objs.size, H', I', rfl, q H' _ as s1' gS hl fun j a ea => ?_⟩
  have hj : j < xs.length := by
    have := (List.getElem?_eq_some_iff.mp ea).1
    omega
  have hj2 : j < ys.length := by omega
  exact ⟨xs[j], ys[j], List.getElem?_eq_getElem hj, List.getElem?_eq_getElem hj2, gT j a _ _ ea (List.getElem?_zip_eq_some.mpr ⟨List.getElem?_eq_getElem hj, List.getElem?_eq_getElem hj2⟩)⟩
end
end Rt
set_option Elab.async false
set_option linter.all false
set_option maxRecDepth 100000
set_option maxHeartbeats 4000000
namespace Rt
open PySem PySem.Spec PyProof.Rows L2
open C8 (Cal Met Mak pe_c pe_mk pe_mt pe_mt0 pe_gc)
local macro_rules | `(tactic| walk_at "bd") => `(tactic| first
  | assumption | exact Bd.sub (by walk_at "bd") (by walk_at "bd") | exact Bd.add (by walk_at "bd") (by walk_at "bd") | exact Bd.mul (by walk_at "bd") (by walk_at "bd") | exact Bd.neg (by walk_at "bd") | exact Bd.lit (by decide))
local macro_rules | `(tactic| walk_at "r") => `(tactic| with_reducible first
  | refine r_seq ?_ | refine r_ret ?_ | refine r_asg ?_ | refine r_drop ?_ | refine r_op ?_ | refine r_un ?_ | refine r_c ?_ | refine r_cons ?_ | refine r_nil ?_ | refine r_i0 ?_ | refine r_U ?_ | refine r_name ?_ | refine r_if ?_ | refine r_test ?_ | refine r_tB ?_ | refine r_bl ?_
  | refine r_call ?_ | refine r_meth ?_ | refine r_fld ?_ | refine r_tup ?_ | refine r_lst ?_ | refine r_cb ?_ | refine r_andV ?_ | refine r_orV ?_ | refine r_notV ?_ | refine r_and ?_ | refine r_or ?_ | refine r_not ?_ | refine r_eqI ?_ | refine r_neI ?_ | refine r_eqB ?_ | refine r_neB ?_
  | refine r_next ?_ | refine r_par ?_ | refine r_lc ?_ | refine r_yes ?_ | refine r_iList ?_ | refine r_iRng1 ?_ | refine r_lstRg ?_ | refine r_rg1 ?_ | refine r_gcons ?_ | refine r_gnil ?_ | refine r_var (by with_unfolding_all rfl) ?_)
local macro_rules | `(tactic| walk_at "s") => `(tactic| first
  | walk_at "r" | (with_reducible refine r_itT rfl ?_) | (with_reducible refine r_itF rfl ?_) | (with_reducible refine r_ixT (by assumption) (by with_unfolding_all rfl) ?_) | ((with_reducible refine r_iM ?_ ?_); exact bd_mul (by walk_at "bd") (by walk_at "bd") (by decide)) | (with_reducible refine r_gtup (by assumption) (by with_unfolding_all rfl) ?_) | refine RoomAt.meth (by assumption) ?_)
local macro_rules | `(tactic| walk_at "d") => `(tactic| try dsimp only [cxOf, Cx.nox, Cx.wish])

theorem Bd.le {n : Nat} {x y : Int} (h : Bd n y) (k : x.natAbs ≤ y.natAbs) : Bd n x := ⟨Nat.lt_of_le_of_lt k h.h⟩
theorem bd_beside {n : Nat} {r : Eh.Room} {p : Q4} (R : RW r) (hn : 12 ≤ n) (b : B4 n p) (w : Nat) : Bd (n + 26) (iBeside r w p) := by
  obtain ⟨p1, p2, p3, p4⟩ := b
  have h1 := Bd.mul (R.dx w) (Bd.sub p2 (Bd.mul (R.by_ w) p4))
  have h2 := Bd.mul (R.dy w) (Bd.sub p1 (Bd.mul (R.bx w) p4))
  exact (Bd.sub h1 h2).mono (by omega)
theorem bd_side {n : Nat} {r : Eh.Room} {p : Q4} (R : RW r) (hn : 12 ≤ n) (b : B4 n p) (w : Nat) : Bd (n + 26) (iSide r w p) := by
  unfold iSide
  split
  · exact b.2.2.1.mono (by omega)
  · split
    · exact (Bd.sub (Bd.mul R.bh b.2.2.2) b.2.2.1).mono (by omega)
    · exact bd_beside R hn b w
theorem b4_point {n : Nat} {x y z w : Int} (h1 : Bd n x) (h2 : Bd n y) (h3 : Bd n z) (h4 : Bd n w) : B4 n (iPoint x y z w) :=
  ⟨h1.le (Int.natAbs_ediv_le_natAbs _ _), h2.le (Int.natAbs_ediv_le_natAbs _ _), h3.le (Int.natAbs_ediv_le_natAbs _ _), h4.le (Int.natAbs_ediv_le_natAbs _ _)⟩
theorem point_w {x y z w : Int} (h : 0 < w) : 0 < (iPoint x y z w).w := by
  have g := gcd_pos_of (a := x) (b := y) (c := z) h
  have l := gcd_le_of (a := x) (b := y) (c := z) h
  exact Int.ediv_pos_of_pos_of_dvd h (by omega) (by
    have h1 : Int.gcd (Int.gcd x y : Nat) (Int.gcd z w : Nat) ∣ Int.gcd z w := by
      have := Int.gcd_dvd_natAbs_right (Int.gcd x y : Nat) (Int.gcd z w : Nat)
      simpa using this
    have h2 : Int.gcd z w ∣ w.natAbs := Int.gcd_dvd_natAbs_right z w
    have h3 := Nat.dvd_trans h1 h2
    exact Int.ofNat_dvd_left.mpr h3)
theorem b4_mir {n : Nat} {r : Eh.Room} {p : Q4} (R : RW r) (hd : RDir r) (hn : 16 ≤ n) (b : B4 n p) (p1 : p.w = 1) (w : Nat) : B4 (n + 1) (iMir r w p) := by
  obtain ⟨b1, b2, b3, b4⟩ := b
  have c := R.crn w
  have e1 := b1.h
  have e2 := b2.h
  have e3 := b3.h
  have hh := R.h1
  have hh2 := R.h2
  have e5 : 2 ^ 16 ≤ 2 ^ n := Nat.pow_le_pow_right (by decide) hn
  have e6 := pow_succ2 n
  have one : Bd (n + 1) 1 := ⟨by omega⟩
  by_cases h1 : w = r.n
  · unfold iMir
    rw [if_pos h1]
    exact ⟨⟨by dsimp only; omega⟩, ⟨by dsimp only; omega⟩, ⟨by dsimp only; omega⟩, one⟩
  · by_cases h2 : r.n < w
    · unfold iMir
      rw [if_neg h1, if_pos h2]
      exact ⟨⟨by dsimp only; omega⟩, ⟨by dsimp only; omega⟩, ⟨by dsimp only; omega⟩, one⟩
    · rcases mir_case hd (show w < r.n by omega) p1 with ⟨_, _, e⟩ | ⟨_, _, e⟩ | ⟨_, _, e⟩ | ⟨_, _, e⟩ <;> rw [e] <;> exact ⟨⟨by dsimp only; omega⟩, ⟨by dsimp only; omega⟩, ⟨by dsimp only; omega⟩, one⟩
theorem b4_met {n m : Nat} {r : Eh.Room} {p q : Q4} (R : RW r) (hn : 12 ≤ n) (hm : 12 ≤ m) (b : B4 n p) (c : B4 m q) (w : Nat) : B4 (n + m + 27) (iMet r w p q) := by
  have s1 := bd_side R hn b w
  have s2 := (bd_side R hm c w).neg
  obtain ⟨b1, b2, b3, b4⟩ := b
  obtain ⟨c1, c2, c3, c4⟩ := c
  exact b4_point ((Bd.add (Bd.mul b1 s2) (Bd.mul c1 s1)).mono (by omega)) ((Bd.add (Bd.mul b2 s2) (Bd.mul c2 s1)).mono (by omega)) ((Bd.add (Bd.mul b3 s2) (Bd.mul c3 s1)).mono (by omega)) ((Bd.add (Bd.mul b4 s2) s1).mono (by omega))
theorem b4_between {n m : Nat} {p q : Q4} (b : B4 n p) (c : B4 m q) : B4 (n + m + 65) (iBetween p q) := by
  obtain ⟨b1, b2, b3, b4⟩ := b
  obtain ⟨c1, c2, c3, c4⟩ := c
  exact b4_point ((Bd.add (Bd.mul b1 c4) (Bd.mul c1 b4)).mono (by omega)) ((Bd.add (Bd.mul b2 c4) (Bd.mul c2 b4)).mono (by omega)) ((Bd.add (Bd.mul b3 c4) (Bd.mul c3 b4)).mono (by omega)) ((Bd.mul (Bd.mul (Bd.lit (by decide)) b4) c4).mono (by omega))
section
variable {P : Program} {w : World} {K : PySem.W.Frag} {mg : Str → Option Value} {base : Heap}
def spMet (K : PySem.W.Frag) : Sp := fun vs H Q _ => ∃ (a b c : Addr) (r : Eh.Room) (i : Nat) (p q : Q4), vs = [.ref a, .int i, .ref b, .ref c] ∧ RoomAt K H a r ∧ P4 K H b p ∧ P4 K H c q ∧ B4 500 p ∧ B4 500 q ∧ 0 < p.w ∧ 0 < iSide r i p ∧ iSide r i q ≤ 0 ∧ ∀ H' t, Same H H' → P4 K H' t (iMet r i p q) → Q (.ref t) H'
theorem ok_met (T : Tx K mg base) : Cal P w K mg base 8 "met" (spMet K) [] := by
  refine mkC T.f_met T.g_met sc_met (fun _ _ _ _ _ _ us hl => match us, hl with | [_, _, _, _], _ => rfl) (fun vs H Q E h => ?_) (fun f cdv A outer s H vs Q E hr h => ⟨_, (pss_cons (ps_set (i := 4) sc_met.nd rfl (Or.inr rfl) (pe_mt (ok_Room_side T) hr (by decide) (pv 0) (pa_cons (pv 1) (pa_cons (pv 2) pa_nil))))
      (pss_cons (ps_set (i := 5) sc_met.nd rfl (Or.inr rfl) (pe_un un_neg (pe_mt (ok_Room_side T) hr (by decide) (pv 0) (pa_cons (pv 1) (pa_cons (pv 3) pa_nil)))))
      (pss_cons (ps_asg (pe_lc (own := [("k", 9)]) rfl sc_met.nd (pi_range1 (by rfl) T.n_range (pa_cons pe_int pa_nil)) (blkOk_by (own := [("k", 9)]) (N := ["room", "wall", "point", "image", "near", "far", "x", "y", "z", "k"]) (sc := defScope s_met) (by decide +kernel)) (fun _ _ _ _ _ => (pg_name (i := 9) sc_met.nd rfl (Or.inl rfl))) (fun _ _ _ _ _ => pts_nil) (fun _ _ _ _ _ => (pe_op op_add (pe_op op_mulW (pe_ix (r := rIxT K) ix_tup (pv 2) (pv 9) (fun _ _ => rfl)) (pv 5)) (pe_op op_mulW (pe_ix (r := rIxT K) ix_tup (pv 3) (pv 9) (fun _ _ => rfl)) (pv 4))))) (pg_lst rfl (pgs_cons (pg_name (i := 6) sc_met.nd rfl (Or.inl rfl)) (pgs_cons (pg_name (i := 7) sc_met.nd rfl (Or.inl rfl)) (pgs_cons (pg_name (i := 8) sc_met.nd rfl (Or.inl rfl)) pgs_nil)))))
      (pss_one (ps_ret (pe_c (ok_point_of T) hr (by decide) rfl (pa_cons (pv 6) (pa_cons (pv 7) (pa_cons (pv 8) (pa_cons (pe_op op_add (pe_op op_mulW (pe_ix (r := rIxT K) ix_tup (pv 2) pe_int (fun _ _ => rfl)) (pv 5)) (pv 4)) pa_nil)))))))))), ?_⟩)
  · obtain ⟨a, b, c, r, i, p, q, rfl, _⟩ := h
    rfl
  · obtain ⟨a, b, c, r, i, p, q, rfl, hR, hb, hc, bp, bq, p0, near0, far0, k⟩ := h
    have R := hR.rw_
    have s1 := bd_side R (by decide) bp i
    have s2 := (bd_side R (by decide) bq i).neg
    obtain ⟨p1, p2, p3, p4⟩ := id bp
    obtain ⟨q1, q2, q3, q4⟩ := id bq
    walk_at "d"
    repeat walk_at "s"
    refine ⟨a, b, r, i, p, rfl, hR, hb, bp.mono (by decide), fun H1 S1 => ?_⟩
    have hR1 := hR.same S1
    repeat walk_at "s"
    refine ⟨a, c, r, i, q, rfl, hR.same S1, S1.tup hc, bq.mono (by decide), fun H2 S2 => ?_⟩
    have S2 := S1.trans S2
    have k1 : ∀ H' t, Same H H' → P4 K H' t (iPoint (p.x * (-iSide r i q) + q.x * iSide r i p) (p.y * (-iSide r i q) + q.y * iSide r i p) (p.z * (-iSide r i q) + q.z * iSide r i p) (p.w * (-iSide r i q) + iSide r i p)) → Q (.ref t) H' := k
    have far1 : 0 ≤ -iSide r i q := by omega
    clear k
    have hb2 := S2.tup hb
    have hc2 := S2.tup hc
    repeat walk_at "s"
    generalize -iSide r i q = M at *
    generalize iSide r i p = N at *
    refine ⟨3, rfl, by decide, by decide, fun D hD => ?_⟩
    refine lcRangeV (lo := 0) (n := 3) (f := fun x => .int (match natV x with | 0 => p.x * M + q.x * N | 1 => p.y * M + q.y * N | _ => p.z * M + q.z * N)) (p := fun _ => true) hD (by decide) (fun j H3 G F hi S h1 h2 => ?_) (fun H3 S e => ?_)
    · have ha1 := S.tup hb2
      have hb1 := S.tup hc2
      refine ⟨rfl, ?_⟩
      refine r_yes ?_
      refine r_itT rfl ?_
      rcases three hi with rfl | rfl | rfl <;> (repeat walk_at "s") <;> exact h2 rfl _ (Same.refl H3)
    · have e' : H3 D = some (.lst [.int (p.x * M + q.x * N), .int (p.y * M + q.y * N), .int (p.z * M + q.z * N)]) := e
      have ha1 := S.tup hb2
      refine r_glst (SqL.of e') rfl ?_
      repeat walk_at "s"
      refine ⟨_, _, _, _, rfl, ?_, ?_, fun H2 t S3 ht => k1 _ _ (S2.trans (S.trans S3)) ht⟩
      · have := Int.mul_nonneg (Int.le_of_lt p0) far1
        omega
      · exact (Bd.add (Bd.mul p4 s2) s1).mono (by decide)
def pathF (sq : Int) (lw : Addr) : List (Str × V) := [("square", .int sq), ("walls", .ref lw)]
def natsV (l : List Nat) : List V := l.map fun n : Nat => V.int (n : Int)
structure PathAt (K : PySem.W.Frag) (H : Hp) (a : Addr) (p : PathI) : Prop where
  ex : ∃ (dx lw : Addr), H a = some (.ins (He.ga K "Path") dx (pathF p.square lw)) ∧ H lw = some (.lst (natsV p.walls))
def spPathInit (K : PySem.W.Frag) : Sp := fun vs H Q _ => ∃ (x dx lw : Addr) (sq : Int), vs = [.ref x, .int sq, .ref lw] ∧ H x = some (.ins (He.ga K "Path") dx []) ∧ Q .non (upd H x (.ins (He.ga K "Path") dx (pathF sq lw)))
theorem ok_Path_init (T : Tx K mg base) : Mak P w K mg base 1 "Path" (He.ga K "Path") (spPathInit K) [] := by
  refine mkK T.f_Path_init T.m_Path T.g_Path sc_Path_init (fun _ _ _ _ _ _ us hl => match us, hl with | [_, _, _], _ => rfl) (fun vs H Q E h => ?_) (fun f cdv A outer s H vs Q E hr h => ⟨_, (pss_cons (ps_fld (pv 0) (pv 1) rfl)
      (pss_one (ps_fld (pv 0) (pv 2) rfl))), ?_⟩)
  · obtain ⟨x, dx, lw, sq, rfl, _⟩ := h
    rfl
  · obtain ⟨x, dx, lw, sq, rfl, hx, k⟩ := h
    walk_at "d"
    repeat walk_at "s"
    refine ⟨_, by with_unfolding_all rfl, _, by with_unfolding_all rfl, x, _, _, _, rfl, hx, T.k_Path, T.a_Path_square, by decide, ?_⟩
    refine ⟨_, by with_unfolding_all rfl, _, by with_unfolding_all rfl, x, _, _, _, rfl, upd_same, T.k_Path, T.a_Path_walls, show 1 < 1000 by decide, ?_⟩
    have e : upd (upd H x (.ins (He.ga K "Path") dx (putF "square" (.int sq) []))) x (.ins (He.ga K "Path") dx (putF "walls" (.ref lw) (putF "square" (.int sq) []))) = upd H x (.ins (He.ga K "Path") dx (pathF sq lw)) := by
      rw [upd_upd]
      rfl
    rw [e]
    exact k
end
section
variable {K : PySem.W.Frag}
/-- a row in the heap: its walls, its images -/
structure RowAt (K : PySem.W.Frag) (H : Hp) (lw li : Addr) (row : Rowi) : Prop where
  wl : H lw = some (.lst (natsV row.1))
  im : ∃ as : List Addr, H li = some (.lst (as.map V.ref)) ∧ as.length = row.2.length ∧ ∀ (j : Nat) (a : Addr) (q : Q4), as[j]? = some a → row.2[j]? = some q → P4 K H a q
/-- what a row of walls and images keeps -/
structure RowOk (r : Eh.Room) (row : Rowi) : Prop where
  len : row.1.length = row.2.length
  few : row.2.length ≤ 4
  beh : ∀ (j : Nat) (w : Nat) (q : Q4), row.1[j]? = some w → row.2[j]? = some q → iSide r w q ≤ 0
  one : ∀ q ∈ row.2, q.w = 1 ∧ B4 20 q
theorem _root_.L2.Same.lst {H H' : Hp} {a : Addr} {xs : List V} (e : Same H H') (h : SqL K H a xs) : SqL K H' a xs := by
  rcases h with (h | ⟨o, h⟩) | h
  · exact .inl (.inl (e _ _ h))
  · exact .inl (.inr ⟨o, e _ _ h⟩)
  · exact .inr h
theorem RowAt.same {H H' : Hp} {lw li : Addr} {row : Rowi} (h : RowAt K H lw li row) (e : Same H H') : RowAt K H' lw li row := by
  obtain ⟨h1, as, h2, h3, h4⟩ := h
  exact ⟨e _ _ h1, as, e _ _ h2, h3, fun j a q x y => e.tup (h4 j a q x y)⟩
end
end Rt
set_option Elab.async false
set_option linter.all false
set_option maxRecDepth 100000
set_option maxHeartbeats 4000000
namespace Rt
open PySem PySem.Spec PyProof.Rows L2
open C8 (Cal Met Mak pe_c pe_mk pe_mt pe_mt0 pe_gc)
local macro_rules | `(tactic| walk_at "bd") => `(tactic| first
  | assumption | exact Bd.sub (by walk_at "bd") (by walk_at "bd") | exact Bd.add (by walk_at "bd") (by walk_at "bd") | exact Bd.mul (by walk_at "bd") (by walk_at "bd") | exact Bd.neg (by walk_at "bd") | exact Bd.lit (by decide))
local macro_rules | `(tactic| walk_at "r") => `(tactic| with_reducible first
  | refine r_seq ?_ | refine r_ret ?_ | refine r_asg ?_ | refine r_drop ?_ | refine r_op ?_ | refine r_un ?_ | refine r_c ?_ | refine r_cons ?_ | refine r_nil ?_ | refine r_i0 ?_ | refine r_U ?_ | refine r_name ?_ | refine r_if ?_ | refine r_test ?_ | refine r_tB ?_ | refine r_bl ?_
  | refine r_call ?_ | refine r_meth ?_ | refine r_fld ?_ | refine r_tup ?_ | refine r_lst ?_ | refine r_cb ?_ | refine r_andV ?_ | refine r_orV ?_ | refine r_notV ?_ | refine r_and ?_ | refine r_or ?_ | refine r_not ?_ | refine r_eqI ?_ | refine r_neI ?_ | refine r_eqB ?_ | refine r_neB ?_
  | refine r_next ?_ | refine r_par ?_ | refine r_lc ?_ | refine r_yes ?_ | refine r_iList ?_ | refine r_iRng1 ?_ | refine r_lstRg ?_ | refine r_rg1 ?_ | refine r_gcons ?_ | refine r_gnil ?_ | refine r_var (by with_unfolding_all rfl) ?_)
local macro_rules | `(tactic| walk_at "s") => `(tactic| first
  | walk_at "r" | (with_reducible refine r_itT rfl ?_) | (with_reducible refine r_itF rfl ?_) | (with_reducible refine r_ixT (by assumption) (by with_unfolding_all rfl) ?_) | ((with_reducible refine r_iM ?_ ?_); exact bd_mul (by walk_at "bd") (by walk_at "bd") (by decide)) | (with_reducible refine r_gtup (by assumption) (by with_unfolding_all rfl) ?_) | refine RoomAt.meth (by assumption) ?_)
local macro_rules | `(tactic| walk_at "d") => `(tactic| try dsimp only [cxOf, Cx.nox, Cx.wish])

section
variable {σ : L2.St} {H : Hp} {D : Ends} {K : PySem.W.Frag}
theorem r_for {wi : TI} {g : TG} {tb : TS} (h : wi σ H fun J H1 => ∃ W : Nat → Nat → L2.St → Hp → Prop, (∃ m, W 0 m σ H1) ∧ ∀ i m σ H, W i m σ H →
  (J.stop i H ∧ D.nx σ H) ∨ (J.go i H ∧ ∃ N : L2.St → Hp → Prop, (∀ σ' H', N σ' H' → ∃ m', m' < m ∧ W (i + 1) m' σ' H') ∧ ∀ x H', J.yld i H x H' → g x σ H' fun σ2 H2 => tb { D with nx := N, ct := N, bk := D.nx } σ2 H2)) : tFor wi g tb D σ H := h
theorem r_iRev {ta : TA} {R : It → Hp → Prop} (h : ta σ H fun vs H1 => ∃ (a : Addr) (xs : List V), vs = [.ref a] ∧ SqL K H1 a xs ∧ R (Itv K a xs.length) H1) : iRev K ta σ H R := h
theorem r_lstZip {ta : TA} {Q : VK} (h : ta σ H fun vs H1 => ∃ (a b : Addr) (xs ys : List V), vs = [.ref a, .ref b] ∧ SqL K H1 a xs ∧ SqL K H1 b ys ∧ xs.length = ys.length ∧
  ∀ (H' : Hp) (p : Addr) (as : List Addr), Same H1 H' → H' p = some (.lst (as.map V.ref)) → as.length = xs.length → (∀ (j : Nat) (a : Addr), as[j]? = some a → ∃ x y, xs[j]? = some x ∧ ys[j]? = some y ∧ H' a = some (.tup [x, y])) → Q (.ref p) H') : tLstZip K ta σ H Q := h
end
section
variable {P : Program} {w : World} {K : PySem.W.Frag} {mg : Str → Option Value} {base : Heap}
theorem iBack_cons {r : Eh.Room} {s p : Q4} {w : Nat} {i : Q4} {l : List (Nat × Q4)} : iBack r s p ((w, i) :: l) = if iSide r w p ≤ 0 then false else if iOpen r w (iMet r w p i) = false ∨ iClear r (iMet r w p i) p = false then false else iBack r s (iMet r w p i) l := rfl
def spPath (K : PySem.W.Frag) : Sp := fun vs H Q _ => ∃ (a b lw li e : Addr) (r : Eh.Room) (s t : Q4) (row : Rowi), vs = [.ref a, .ref b, .ref lw, .ref li, .ref e] ∧ RoomAt K H a r ∧ P4 K H b s ∧ RowAt K H lw li row ∧ P4 K H e t ∧ RowOk r row ∧
  B4 20 s ∧ s.w = 1 ∧ B4 20 t ∧ t.w = 1 ∧ ∀ H', Same H H' → Q (.bl (iIsPath r s row.1 row.2 t)) H'
theorem ok_is_path (T : Tx K mg base) : Cal P w K mg base 10 "is_path" (spPath K) [] := by
  refine mkC T.f_is_path T.g_is_path sc_is_path (fun _ _ _ _ _ _ us hl => match us, hl with | [_, _, _, _, _], _ => rfl) (fun vs H Q E h => ?_) (fun f cdv A outer s H vs Q E hr h => ⟨_, (pss_cons (ps_set (i := 5) sc_is_path.nd rfl (Or.inl rfl) (pv 4))
      (pss_cons (ps_for PassesOwn.never rfl (pi_reversed (by rfl) T.n_reversed (pa_cons (pe_listZip rfl (by rfl) T.n_list (by rfl) T.n_zip (pa_cons (pv 2) (pa_cons (pv 3) pa_nil))) pa_nil)) (pg_tup rfl (pgs_cons (pg_name (i := 6) sc_is_path.nd rfl (Or.inl rfl)) (pgs_cons (pg_name (i := 7) sc_is_path.nd rfl (Or.inl rfl)) pgs_nil))) (pss_cons (ps_if (pt_cmpR op_le (pe_mt (ok_Room_side T) hr (by decide) (pv 0) (pa_cons (pv 6) (pa_cons (pv 5) pa_nil))) pe_int (nomark _)) (pss_one (ps_ret pe_bl)) pss_nil)
      (pss_cons (ps_set (i := 8) sc_is_path.nd rfl (Or.inl rfl) (pe_c (ok_met T) hr (by decide) rfl (pa_cons (pv 0) (pa_cons (pv 6) (pa_cons (pv 5) (pa_cons (pv 7) pa_nil))))))
      (pss_cons (ps_if (PW.pt (pw_or (pt_not (pt_val (pe_mt (ok_Room_is_open T) hr (by decide) (pv 0) (pa_cons (pv 6) (pa_cons (pv 8) pa_nil))))) (pw_or1 (pt_not (pt_val (pe_c (ok_is_clear T) hr (by decide) rfl (pa_cons (pv 0) (pa_cons (pv 8) (pa_cons (pv 5) pa_nil))))))))) (pss_one (ps_ret pe_bl)) pss_nil)
      (pss_one (ps_set (i := 5) sc_is_path.nd rfl (Or.inl rfl) (pv 8)))))))
      (pss_one (ps_ret (pe_c (ok_is_clear T) hr (by decide) rfl (pa_cons (pv 0) (pa_cons (pv 1) (pa_cons (pv 5) pa_nil)))))))), ?_⟩)
  · obtain ⟨a, b, lw, li, e, r, s, t, row, rfl, _⟩ := h
    rfl
  · obtain ⟨a, b, lw, li, e, r, s', t, row, rfl, hR, hb, hrow, he, ok, bs, sw, bt, tw, k⟩ := h
    have R := hR.rw_
    obtain ⟨walls, ims⟩ := row
    obtain ⟨hl, as, hi, hal, hq⟩ := id hrow
    obtain ⟨oklen, okfew, okbeh, okone⟩ := id ok
    dsimp only at hl hal hq oklen okfew okbeh okone k
    walk_at "d"
    repeat walk_at "s"
    refine r_for ?_
    refine r_iRev ?_
    repeat walk_at "s"
    refine r_lstZip ?_
    repeat walk_at "s"
    refine ⟨lw, li, _, _, rfl, SqL.of hl, SqL.of hi, by unfold natsV; rw [List.length_map, List.length_map]; omega, fun H1 p bs' S1 hp hbl htup => ?_⟩
    repeat walk_at "s"
    refine ⟨p, _, rfl, SqL.of hp, ?_⟩
    have hn : (bs'.map V.ref).length = walls.length := by rw [List.length_map, hbl]; unfold natsV; rw [List.length_map]
    refine RT.for_Itv (fun i σ H' => ∃ (pt : Addr) (q : Q4) (x6 x7 x8 : Option V), σ = [some (.ref a), some (.ref b), some (.ref lw), some (.ref li), some (.ref e), some (.ref pt), x6, x7, x8] ∧ Same H1 H' ∧ P4 K H' pt q ∧ B4 (20 + 47 * i) q ∧ 0 < q.w ∧
      iBack r s' q ((List.zip walls ims).reverse.drop i) = iIsPath r s' walls ims t) ⟨e, t, _, _, _, rfl, Same.refl _, S1.tup he, bt, by omega, rfl⟩ (fun i σ H' z => ?_) (fun i x σ H' hi hx z => ?_) (fun σ H' z => ?_)
    · obtain ⟨pt, q, x6, x7, x8, rfl, S2, _⟩ := z
      exact S2.lst (SqL.of hp)
    · obtain ⟨pt, q, x6, x7, x8, rfl, S2, hpt, bq, q0, inv⟩ := z
      rw [hn] at hi hx
      have hj : walls.length - 1 - i < bs'.length := by rw [List.length_map] at hn; omega
      have ex : bs'[walls.length - 1 - i]? = some bs'[walls.length - 1 - i] := List.getElem?_eq_getElem hj
      rw [List.getElem?_map, ex] at hx
      cases hx
      obtain ⟨x, y, e1, e2, ht⟩ := htup _ _ ex
      have jw : walls.length - 1 - i < walls.length := by omega
      have ji : walls.length - 1 - i < ims.length := by omega
      have ja : walls.length - 1 - i < as.length := by omega
      have g1 : walls[walls.length - 1 - i]? = some walls[walls.length - 1 - i] := List.getElem?_eq_getElem jw
      have g2 : ims[walls.length - 1 - i]? = some ims[walls.length - 1 - i] := List.getElem?_eq_getElem ji
      have g3 : as[walls.length - 1 - i]? = some as[walls.length - 1 - i] := List.getElem?_eq_getElem ja
      have ez : (List.zip walls ims).reverse.drop i = (walls[walls.length - 1 - i], ims[walls.length - 1 - i]) :: (List.zip walls ims).reverse.drop (i + 1) := by
        have hlz : i < (List.zip walls ims).reverse.length := by rw [List.length_reverse, List.length_zip]; omega
        rw [List.drop_eq_getElem_cons hlz]
        congr 1
        rw [List.getElem_reverse, List.getElem_zip]
        have hz : (List.zip walls ims).length = walls.length := by rw [List.length_zip]; omega
        congr 2 <;> (simp only [hz])
      have pq := hq _ _ _ g3 g2
      have beh := okbeh _ _ _ g1 g2
      obtain ⟨im1, imb⟩ := okone _ (List.mem_of_getElem? g2)
      unfold natsV at e1
      rw [List.getElem?_map, g1] at e1
      rw [List.getElem?_map, g3] at e2
      cases e1
      cases e2
      generalize walls[walls.length - 1 - i] = wl at *
      generalize ims[walls.length - 1 - i] = im at *
      generalize as[walls.length - 1 - i] = ia at *
      rw [ez, iBack_cons] at inv
      have b500 : 20 + 47 * i ≤ 500 := by omega
      have hR2 := hR.same (S1.trans S2)
      have S02 := S1.trans S2
      refine r_gtup (S2.tup (SqT.of ht)) rfl ?_
      repeat walk_at "s"
      refine ⟨a, pt, r, wl, q, rfl, hR2, hpt, bq.mono (by omega), fun H3 S3 => ?_⟩
      repeat walk_at "s"
      refine r_iteB (fun c => ?_) fun c => ?_
      · rw [if_pos (of_decide_eq_true c)] at inv
        repeat walk_at "s"
        have k2 := k _ (S02.trans S3)
        rw [← inv] at k2
        exact k2
      · rw [if_neg (of_decide_eq_false c)] at inv
        have near : 0 < iSide r wl q := by have := of_decide_eq_false c; omega
        repeat walk_at "s"
        refine ⟨a, pt, ia, r, wl, q, im, rfl, hR2.same S3, S3.tup hpt, (S02.trans S3).tup pq, bq.mono (by omega), imb.mono (by decide), q0, near, beh, fun H4 t4 S4 ht4 => ?_⟩
        have S34 := S3.trans S4
        have S04 := S02.trans S34
        have hR4 := hR.same S04
        have bm : B4 (20 + 47 * (i + 1)) (iMet r wl q im) := (b4_met R (by omega) (by decide) bq imb wl).mono (by omega)
        have bm3 : 20 + 47 * (i + 1) ≤ 300 := by omega
        have mw : 0 < (iMet r wl q im).w := point_w (by
          have := Int.mul_nonneg (Int.le_of_lt q0) (show 0 ≤ -iSide r wl im by omega)
          omega)
        generalize iMet r wl q im = m at *
        repeat walk_at "s"
        refine ⟨a, t4, r, wl, m, rfl, hR4, ht4, bm.mono (by omega), fun H5 S5 => ?_⟩
        have S05 := S04.trans S5
        have hR5 := hR.same S05
        repeat walk_at "s"
        refine r_iteB (fun c1 => ?_) fun c1 => ?_
        · have c1' : iOpen r wl m = false := by simpa using c1
          rw [if_pos (.inl c1')] at inv
          repeat walk_at "s"
          have k2 := k _ S05
          rw [← inv] at k2
          exact k2
        · have c1' : ¬ iOpen r wl m = false := by simpa using c1
          repeat walk_at "s"
          refine ⟨a, t4, pt, r, m, q, rfl, hR5, S5.tup ht4, (S34.trans S5).tup hpt, bm.mono (by omega), bq.mono (by omega), mw, q0, (b4_between bm bq).mono (by omega), fun H6 S6 => ?_⟩
          repeat walk_at "s"
          refine r_iteB (fun c2 => ?_) fun c2 => ?_
          · have c2' : iClear r m q = false := by simpa using c2
            rw [if_pos (.inr c2')] at inv
            repeat walk_at "s"
            have k2 := k _ (S05.trans S6)
            rw [← inv] at k2
            exact k2
          · have c2' : ¬ iClear r m q = false := by simpa using c2
            rw [if_neg (fun z => z.elim c1' c2')] at inv
            repeat walk_at "s"
            exact ⟨t4, m, _, _, _, rfl, S2.trans (S34.trans (S5.trans S6)), (S5.trans S6).tup ht4, bm, mw, inv⟩
    · obtain ⟨pt, q, x6, x7, x8, rfl, S2, hpt, bq, q0, inv⟩ := z
      rw [List.drop_of_length_le (by rw [List.length_reverse, List.length_zip, hn]; omega)] at inv
      rw [hn] at bq
      have S02 := S1.trans S2
      repeat walk_at "s"
      refine ⟨a, b, pt, r, s', q, rfl, hR.same S02, S02.tup hb, hpt, bs.mono (by decide), bq.mono (by omega), by omega, q0, (b4_between bs bq).mono (by omega), fun H3 S3 => ?_⟩
      have k2 := k _ (S02.trans S3)
      rw [← inv] at k2
      exact k2
end
end Rt
set_option Elab.async false
set_option linter.all false
set_option maxRecDepth 100000
set_option maxHeartbeats 4000000
namespace Rt
open PySem PySem.Spec PyProof.Rows L2
open C8 (Cal Met Mak pe_c pe_mk pe_mt pe_mt0 pe_gc)
local macro_rules | `(tactic| walk_at "bd") => `(tactic| first
  | assumption | exact Bd.sub (by walk_at "bd") (by walk_at "bd") | exact Bd.add (by walk_at "bd") (by walk_at "bd") | exact Bd.mul (by walk_at "bd") (by walk_at "bd") | exact Bd.neg (by walk_at "bd") | exact Bd.lit (by decide))
local macro_rules | `(tactic| walk_at "r") => `(tactic| with_reducible first
  | refine r_seq ?_ | refine r_ret ?_ | refine r_asg ?_ | refine r_drop ?_ | refine r_op ?_ | refine r_un ?_ | refine r_c ?_ | refine r_cons ?_ | refine r_nil ?_ | refine r_i0 ?_ | refine r_U ?_ | refine r_name ?_ | refine r_if ?_ | refine r_test ?_ | refine r_tB ?_ | refine r_bl ?_
  | refine r_call ?_ | refine r_meth ?_ | refine r_fld ?_ | refine r_tup ?_ | refine r_lst ?_ | refine r_cb ?_ | refine r_andV ?_ | refine r_orV ?_ | refine r_notV ?_ | refine r_and ?_ | refine r_or ?_ | refine r_not ?_ | refine r_eqI ?_ | refine r_neI ?_ | refine r_eqB ?_ | refine r_neB ?_
  | refine r_next ?_ | refine r_par ?_ | refine r_lc ?_ | refine r_yes ?_ | refine r_iList ?_ | refine r_iRng1 ?_ | refine r_lstRg ?_ | refine r_rg1 ?_ | refine r_gcons ?_ | refine r_gnil ?_ | refine r_var (by with_unfolding_all rfl) ?_)
local macro_rules | `(tactic| walk_at "s") => `(tactic| first
  | walk_at "r" | (with_reducible refine r_itT rfl ?_) | (with_reducible refine r_itF rfl ?_) | (with_reducible refine r_ixT (by assumption) (by with_unfolding_all rfl) ?_) | ((with_reducible refine r_iM ?_ ?_); exact bd_mul (by walk_at "bd") (by walk_at "bd") (by decide)) | (with_reducible refine r_gtup (by assumption) (by with_unfolding_all rfl) ?_) | refine RoomAt.meth (by assumption) ?_)
local macro_rules | `(tactic| walk_at "d") => `(tactic| try dsimp only [cxOf, Cx.nox, Cx.wish])

theorem same_put {H0 H : Hp} {l : Addr} {o : HO} (e : Same H0 H) (n : H0 l = none) : Same H0 (upd H l o) := fun b u q => by
  rw [upd_ne (ne_of_none q n)]
  exact e b u q
section
variable {K : PySem.W.Frag} {H H' : Hp}
theorem tup_put {a l : Addr} {xs ys zs : List V} (hl : H l = some (.lst ys)) (h : SqT K H a xs) : SqT K (upd H l (.lst zs)) a xs := by
  rcases h with (h | ⟨o, h⟩) | h
  · refine .inl (.inl ?_)
    rw [upd_ne fun q => by rw [q, hl] at h; cases h]
    exact h
  · refine .inl (.inr ⟨o, ?_⟩)
    rw [upd_ne fun q => by rw [q, hl] at h; cases h]
    exact h
  · exact .inr h
theorem RowAt.put {lw li l : Addr} {row : Rowi} {ys zs : List V} (hl : H l = some (.lst ys)) (h : RowAt K H lw li row) (n1 : lw ≠ l) (n2 : li ≠ l) : RowAt K (upd H l (.lst zs)) lw li row := by
  obtain ⟨h1, as, h2, h3, h4⟩ := h
  exact ⟨(upd_ne n1).trans h1, as, (upd_ne n2).trans h2, h3, fun j a q x y => tup_put hl (h4 j a q x y)⟩
/-- rows in the heap, away from some lists -/
structure RowsIn (K : PySem.W.Frag) (H : Hp) (av : List Addr) (ts : List Addr) (rows : List Rowi) : Prop where
  len : ts.length = rows.length
  at_ : ∀ (j : Nat) (t : Addr) (row : Rowi), ts[j]? = some t → rows[j]? = some row → ∃ lw li, SqT K H t [.ref lw, .ref li] ∧ lw ∉ av ∧ li ∉ av ∧ RowAt K H lw li row
theorem RowsIn.same {av ts : List Addr} {rows : List Rowi} (h : RowsIn K H av ts rows) (e : Same H H') : RowsIn K H' av ts rows :=
  ⟨h.len, fun j t row e1 e2 => let ⟨lw, li, a, b, c, d⟩ := h.at_ j t row e1 e2; ⟨lw, li, e.tup a, b, c, d.same e⟩⟩
theorem RowsIn.put {av ts : List Addr} {rows : List Rowi} {l : Addr} {ys zs : List V} (h : RowsIn K H av ts rows) (hl : H l = some (.lst ys)) (m : l ∈ av) : RowsIn K (upd H l (.lst zs)) av ts rows :=
  ⟨h.len, fun j t row e1 e2 => let ⟨lw, li, a, b, c, d⟩ := h.at_ j t row e1 e2; ⟨lw, li, tup_put hl a, b, c, d.put hl (fun q => b (q ▸ m)) (fun q => c (q ▸ m))⟩⟩
theorem RowsIn.new {av ts : List Addr} {rows : List Rowi} {p : Addr} (h : RowsIn K H av ts rows) (hp : H p = none) : RowsIn K H (p :: av) ts rows :=
  ⟨h.len, fun j t row e1 e2 => by
    obtain ⟨lw, li, a, b, c, d⟩ := h.at_ j t row e1 e2
    obtain ⟨h1, as, h2, _⟩ := id d
    refine ⟨lw, li, a, fun q => ?_, fun q => ?_, d⟩
    · rcases List.mem_cons.mp q with q | q
      · rw [q, hp] at h1; cases h1
      · exact b q
    · rcases List.mem_cons.mp q with q | q
      · rw [q, hp] at h2; cases h2
      · exact c q⟩
theorem RowsIn.less {av av' ts : List Addr} {rows : List Rowi} (h : RowsIn K H av ts rows) (s : ∀ x ∈ av', x ∈ av) : RowsIn K H av' ts rows :=
  ⟨h.len, fun j t row e1 e2 => let ⟨lw, li, a, b, c, d⟩ := h.at_ j t row e1 e2; ⟨lw, li, a, fun q => b (s _ q), fun q => c (s _ q), d⟩⟩
theorem RowsIn.nil {av : List Addr} : RowsIn K H av [] [] := ⟨rfl, fun j t row e1 _ => by simp at e1⟩
theorem RowsIn.app {av ts us : List Addr} {rows rows' : List Rowi} (h : RowsIn K H av ts rows) (g : RowsIn K H av us rows') : RowsIn K H av (ts ++ us) (rows ++ rows') := by
  refine ⟨by rw [List.length_append, List.length_append, h.len, g.len], fun j t row e1 e2 => ?_⟩
  by_cases q : j < ts.length
  · rw [List.getElem?_append_left q] at e1
    rw [List.getElem?_append_left (by rw [← h.len]; exact q)] at e2
    exact h.at_ j t row e1 e2
  · rw [List.getElem?_append_right (by omega)] at e1
    rw [List.getElem?_append_right (by rw [← h.len]; omega), ← h.len] at e2
    exact g.at_ _ t row e1 e2
theorem RowsIn.one {av : List Addr} {t lw li : Addr} {row : Rowi} (a : SqT K H t [.ref lw, .ref li]) (b : lw ∉ av) (c : li ∉ av) (d : RowAt K H lw li row) : RowsIn K H av [t] [row] :=
  ⟨rfl, fun j t' row' e1 e2 => by
    cases j with
    | zero =>
      cases e1
      cases e2
      exact ⟨lw, li, a, b, c, d⟩
    | succ j => simp at e1⟩
end
theorem rowOk_longer {r : Eh.Room} {s : Q4} {row : Rowi} {wl : Nat} (R : RW r) (hd : RDir r) (ok : RowOk r row) (h3 : row.2.length ≤ 3) (hs : 0 < iSide r wl (lastOr s row.2)) (s1 : s.w = 1) (h20 : B4 20 (iMir r wl (lastOr s row.2))) : RowOk r (row.1 ++ [wl], row.2 ++ [iMir r wl (lastOr s row.2)]) := by
  have l1 : (lastOr s row.2).w = 1 := by
    unfold lastOr
    rw [List.getLastD_eq_getLast?]
    cases e : row.2.getLast? with
    | none => exact s1
    | some q => exact (ok.one q (List.mem_of_getLast? e)).1
  refine ⟨by simp [ok.len], by simp; omega, fun j w' q e1 e2 => ?_, fun q hq => ?_⟩
  · by_cases z : j < row.1.length
    · rw [List.getElem?_append_left z] at e1
      rw [List.getElem?_append_left (by rw [← ok.len]; exact z)] at e2
      exact ok.beh j w' q e1 e2
    · rw [List.getElem?_append_right (by omega)] at e1
      rw [List.getElem?_append_right (by rw [← ok.len]; omega), ← ok.len] at e2
      have z0 : j - row.1.length = 0 := by
        have := (List.getElem?_eq_some_iff.mp e1).1
        simp at this
        omega
      rw [z0] at e1 e2
      cases e1
      cases e2
      rw [mir_side hd l1]
      omega
  · rcases List.mem_append.mp hq with hq | hq
    · exact ok.one q hq
    · rw [List.mem_singleton.mp hq]
      exact ⟨mir_w, h20⟩
theorem atI_last {xs : List V} {v : V} (h : xs.getLast? = some v) : atI xs (-1) = some v := by
  have hl : 0 < xs.length := by
    cases xs with
    | nil => simp at h
    | cons x r => simp
  unfold atI ixN
  rw [if_neg (by decide), if_pos (by omega)]
  show xs[((-1 : Int) + (xs.length : Nat)).toNat]? = some v
  rw [show ((-1 : Int) + (xs.length : Nat)).toNat = xs.length - 1 by omega, ← List.getLast?_eq_getElem?]
  exact h
theorem r_orLast {K : PySem.W.Frag} {σ : L2.St} {H : Hp} {Q : VK} {i j : Nat} {li b : Addr} {as : List Addr} {ims : List Q4} {s : Q4} (e3 : σ[i]? = some (some (.ref li))) (e1 : σ[j]? = some (some (.ref b))) (hi : H li = some (.lst (as.map V.ref))) (hal : as.length = ims.length)
    (hq : ∀ (j : Nat) (a : Addr) (q : Q4), as[j]? = some a → ims[j]? = some q → P4 K H a q) (hb : P4 K H b s)
    (k : ∀ x H', Same H H' → (∀ G : VK, (∀ t, P4 K H' t (lastOr s ims) → G (.ref t) H') → rIxL K x (.int (-1)) H' G) → Q x H') : tOrT K (tVar i) (tLst (tCons (tVar j) tNil)) σ H Q := by
  refine ⟨_, e3, !(as.map V.ref).isEmpty, .inl ⟨_, SqL.of hi, rfl⟩, ?_⟩
  cases as with
  | nil =>
    cases ims with
    | cons q r => simp at hal
    | nil =>
      refine r_itF rfl ?_
      refine ⟨_, e1, szA, fun p hp => ?_⟩
      refine k _ _ (same_new hp) fun G g => ⟨p, _, _, _, rfl, rfl, SqL.of upd_same, rfl, g b ?_⟩
      exact (same_new hp).tup hb
  | cons a r =>
    refine r_itT rfl ?_
    refine k _ _ (Same.refl H) fun G g => ?_
    have hne : 0 < ims.length := by rw [← hal]; simp
    have g1 : (a :: r)[(a :: r).length - 1]? = some ((a :: r)[(a :: r).length - 1]'(by simp)) := List.getElem?_eq_getElem _
    have g2 : ims[(a :: r).length - 1]? = some (ims[(a :: r).length - 1]'(by omega)) := List.getElem?_eq_getElem _
    have h := hq _ _ _ g1 g2
    have el : lastOr s ims = ims[(a :: r).length - 1]'(by omega) := by
      unfold lastOr
      rw [List.getLastD_eq_getLast?, List.getLast?_eq_getElem?, show ims.length - 1 = (a :: r).length - 1 by rw [hal], g2]
      rfl
    rw [← el] at h
    refine ⟨li, _, _, _, rfl, rfl, SqL.of hi, atI_last (v := .ref ((a :: r)[(a :: r).length - 1]'(by simp))) ?_, g _ h⟩
    rw [List.getLast?_map, List.getLast?_eq_getElem?, g1]
    rfl
section
variable {P : Program} {w : World} {K : PySem.W.Frag} {mg : Str → Option Value} {base : Heap}
def spSquare (K : PySem.W.Frag) : Sp := fun vs H Q _ => ∃ (a b : Addr) (p q : Q4), vs = [.ref a, .ref b] ∧ P4 K H a p ∧ P4 K H b q ∧ B4 1000 p ∧ B4 1000 q ∧ ∀ H', Same H H' → Q (.int (iSquare p q)) H'
theorem ok_square_between (T : Tx K mg base) : Cal P w K mg base 1 "square_between" (spSquare K) [] := by
  refine mkC T.f_square_between T.g_square_between sc_square_between (fun _ _ _ _ _ _ us hl => match us, hl with | [_, _], _ => rfl) (fun vs H Q E h => ?_) (fun f cdv A outer s H vs Q E hr h => ⟨_, (pss_one (ps_ret (pe_callB (cr_sum rfl) (by rfl) T.n_sum (by decide +kernel) (pa_cons (pe_lc (own := [("k", 2)]) rfl sc_square_between.nd (pi_range1 (by rfl) T.n_range (pa_cons pe_int pa_nil)) (blkOk_by (own := [("k", 2)]) (N := ["one", "other", "k"]) (sc := defScope s_square_between) (by decide +kernel)) (fun _ _ _ _ _ => (pg_name (i := 2) sc_square_between.nd rfl (Or.inl rfl))) (fun _ _ _ _ _ => pts_nil) (fun _ _ _ _ _ => (pe_op op_mulW (pe_op op_sub (pe_ix (r := rIxT K) ix_tup (pv 0) (pv 2) (fun _ _ => rfl)) (pe_ix (r := rIxT K) ix_tup (pv 1) (pv 2) (fun _ _ => rfl))) (pe_op op_sub (pe_ix (r := rIxT K) ix_tup (pv 0) (pv 2) (fun _ _ => rfl)) (pe_ix (r := rIxT K) ix_tup (pv 1) (pv 2) (fun _ _ => rfl)))))) pa_nil)))), ?_⟩)
  · obtain ⟨a, b, p, q, rfl, _⟩ := h
    rfl
  · obtain ⟨a, b, p, q, rfl, ha, hb, bp, bq, k⟩ := h
    obtain ⟨p1, p2, p3, p4⟩ := id bp
    obtain ⟨q1, q2, q3, q4⟩ := id bq
    walk_at "d"
    repeat walk_at "s"
    refine ⟨3, rfl, by decide, by decide, fun D hD => ?_⟩
    refine lcRangeV (lo := 0) (n := 3) (f := fun x => .int (match natV x with | 0 => (p.x - q.x) * (p.x - q.x) | 1 => (p.y - q.y) * (p.y - q.y) | _ => (p.z - q.z) * (p.z - q.z))) (p := fun _ => true) hD (by decide) (fun i H1 G F hi S h1 h2 => ?_) (fun H1 S e => ?_)
    · have ha1 := S.tup ha
      have hb1 := S.tup hb
      refine ⟨rfl, ?_⟩
      refine r_yes ?_
      refine r_itT rfl ?_
      rcases three hi with rfl | rfl | rfl <;> (repeat walk_at "s") <;> exact h2 rfl _ (Same.refl H1)
    · have e' : H1 D = some (.lst ([(p.x - q.x) * (p.x - q.x), (p.y - q.y) * (p.y - q.y), (p.z - q.z) * (p.z - q.z)].map V.int)) := e
      repeat walk_at "s"
      refine ⟨D, _, rfl, SqL.of e', ?_⟩
      have k2 := k _ S
      unfold iSquare at k2
      rw [← Int.add_zero ((p.z - q.z) * (p.z - q.z))] at k2
      exact k2
theorem r_bm {K : PySem.W.Frag} {σ : L2.St} {H : Hp} {Q : VK} {T : String} {r : V → List V → Hp → VK → Prop} {to : TE} {t : TA} (h : to σ H fun x H1 => tyV K T x H1 ∧ t σ H1 fun xs H2 => r x xs H2 Q) : tBM K T r to t σ H Q := h
theorem tyl {K : PySem.W.Frag} {H : Hp} {l : Addr} {xs : List V} (h : H l = some (.lst xs)) : tyV K "list" (.ref l) H := .inl ⟨rfl, _, SqL.of h⟩
theorem sz1' {n : Nat} (h : n ≤ 1000000) : n < sizeLine := Nat.lt_of_le_of_lt h (by decide)
def iLongTo (r : Eh.Room) (s : Q4) (row : Rowi) (i : Nat) : List Rowi := ((List.range i).filter fun w => decide (0 < iSide r w (lastOr s row.2))).map fun w => (row.1 ++ [w], row.2 ++ [iMir r w (lastOr s row.2)])
theorem longTo_len {r : Eh.Room} {s : Q4} {row : Rowi} (i : Nat) : (iLongTo r s row i).length ≤ i := by
  unfold iLongTo
  rw [List.length_map]
  exact Nat.le_trans (List.length_filter_le _ _) (by rw [List.length_range]; exact Nat.le_refl _)
theorem longTo_no {r : Eh.Room} {s : Q4} {row : Rowi} {i : Nat} (h : ¬ 0 < iSide r i (lastOr s row.2)) : iLongTo r s row (i + 1) = iLongTo r s row i := by
  unfold iLongTo
  rw [List.range_succ, List.filter_append, List.filter_cons_of_neg (by simpa using h), List.filter_nil, List.append_nil]
theorem longTo_yes {r : Eh.Room} {s : Q4} {row : Rowi} {i : Nat} (h : 0 < iSide r i (lastOr s row.2)) : iLongTo r s row (i + 1) = iLongTo r s row i ++ [(row.1 ++ [i], row.2 ++ [iMir r i (lastOr s row.2)])] := by
  unfold iLongTo
  rw [List.range_succ, List.filter_append, List.filter_cons_of_pos (by simpa using h), List.filter_nil, List.map_append]
  rfl
/-- a list of rows, one wall longer than a row -/
def spLonger (K : PySem.W.Frag) : Sp := fun vs H Q _ => ∃ (a b lw li : Addr) (r : Eh.Room) (s : Q4) (row : Rowi), vs = [.ref a, .ref b, .ref lw, .ref li] ∧ RoomAt K H a r ∧ P4 K H b s ∧ RowAt K H lw li row ∧ RowOk r row ∧ row.2.length ≤ 3 ∧
  s.w = 1 ∧ B4 16 s ∧ RDir r ∧ B4 900 (lastOr s row.2) ∧ ∀ H' l ts, Same H H' → H' l = some (.lst (ts.map V.ref)) → (∀ av, (∀ x ∈ av, H x ≠ none) → RowsIn K H' av ts (iLonger r s row)) → Q (.ref l) H'
theorem ok_longer (T : Tx K mg base) : Cal P w K mg base 6 "longer" (spLonger K) [] := by
  refine mkC T.f_longer T.g_longer sc_longer (fun _ _ _ _ _ _ us hl => match us, hl with | [_, _, _, _], _ => rfl) (fun vs H Q E h => ?_) (fun f cdv A outer s H vs Q E hr h => ⟨_, (pss_cons (ps_set (i := 4) sc_longer.nd rfl (Or.inl rfl) (pe_ix (r := rIxL K) ix_list (pe_orT (pv 3) (pe_one (pe_lst (pa_cons (pv 1) pa_nil)))) (pe_un un_neg pe_int) (fun _ _ => rfl)))
      (pss_cons (ps_set (i := 5) sc_longer.nd rfl (Or.inl rfl) (pe_lst pa_nil))
      (pss_cons (ps_for PassesOwn.never rfl (pi_range1 (by rfl) T.n_range (pa_cons (pe_op op_add (pe_mt0 (ok_Room_many T) hr (by decide) (pv 0)) pe_int) pa_nil)) (pg_name (i := 6) sc_longer.nd rfl (Or.inl rfl)) (pss_one (ps_if (pt_cmpR op_gt (pe_mt (ok_Room_side T) hr (by decide) (pv 0) (pa_cons (pv 6) (pa_cons (pv 4) pa_nil))) pe_int (nomark _)) (pss_one (ps_expr (pe_bm PySem.F.plainAttrs_list PySem.F.slot_list_append PySem.F.type_list_append mt_append (pv 5) (pa_cons (pe_tup (pa_cons (pe_op op_cat (pv 2) (pe_lst (pa_cons (pv 6) pa_nil))) (pa_cons (pe_op op_cat (pv 3) (pe_lst (pa_cons (pe_mt (ok_Room_mirrored T) hr (by decide) (pv 0) (pa_cons (pv 6) (pa_cons (pv 4) pa_nil))) pa_nil))) pa_nil))) pa_nil)))) pss_nil)))
      (pss_one (ps_ret (pv 5)))))), ?_⟩)
  · obtain ⟨a, b, lw, li, r, s', row, rfl, _⟩ := h
    rfl
  · obtain ⟨a, b, lw, li, r, s', row, rfl, hR, hb, hrow, ok, few, s1, bs, hd, bl, k⟩ := h
    have R := hR.rw_
    have n64 := R.n64
    obtain ⟨hl, as, hi, hal, hq⟩ := id hrow
    have hi0 := hi
    have ok1 := ok.len
    walk_at "d"
    repeat walk_at "s"
    refine r_orLast rfl rfl hi hal hq hb fun x H1 S1 hx => ?_
    repeat walk_at "s"
    refine hx _ fun t ht => ?_
    repeat walk_at "s"
    refine ⟨sz0, fun l hl0 => ?_⟩
    have S2 := S1.trans (same_new (o := .lst []) hl0)
    have ht := (same_new (o := .lst []) hl0).tup ht
    have gl : upd H1 l (.lst []) l = some (.lst []) := upd_same
    have hl0 : H l = none := by
      cases z : H l with
      | none => rfl
      | some u => rw [S1 _ _ z] at hl0; cases hl0
    generalize upd H1 l (.lst []) = H2 at *
    have hR2 := hR.same S2
    repeat walk_at "s"
    refine r_for ?_
    repeat walk_at "s"
    refine ⟨a, r, rfl, hR2, ?_⟩
    repeat walk_at "s"
    refine ⟨_, rfl, by omega, by omega, ?_⟩
    rw [show ((r.n : Int) + 2).toNat = r.n + 2 by omega]
    refine for_range (lo := 0) (n := r.n + 2) (fun i σ H' => ∃ (ts : List Addr) (x6 : Option V), σ = [some (.ref a), some (.ref b), some (.ref lw), some (.ref li), some (.ref t), some (.ref l), x6] ∧ Same H H' ∧ H' l = some (.lst (ts.map V.ref)) ∧ P4 K H' t (lastOr s' row.2) ∧
      ∀ av, (∀ x ∈ av, H x ≠ none) → RowsIn K H' (l :: av) ts (iLongTo r s' row i)) ⟨[], _, rfl, S2, gl, ht, fun av _ => RowsIn.nil⟩ (fun i σ H' hi z => ?_) (fun σ H' z => ?_)
    · obtain ⟨ts, x6, rfl, S, gl, ht, inv⟩ := z
      have hts : ts.length ≤ i := by
        rw [(inv [] (fun x hx => nomatch hx)).len]
        exact longTo_len i
      rw [Int.zero_add]
      have hR3 := hR.same S
      repeat walk_at "s"
      refine ⟨a, t, r, i, _, rfl, hR3, ht, bl.mono (by decide), fun H3 S3 => ?_⟩
      repeat walk_at "s"
      refine r_iteB (fun c => ?_) fun c => ?_
      · have c' := of_decide_eq_true c
        have gl3 := S3 _ _ gl
        have ht3 := S3.tup ht
        have SS3 := S.trans S3
        repeat walk_at "s"
        refine r_bm ?_
        repeat walk_at "s"
        refine ⟨tyl gl3, ?_⟩
        repeat walk_at "s"
        refine ⟨szA, fun p1 hp1 => ?_⟩
        repeat walk_at "s"
        have Sn := same_new (o := .lst [V.int (i : Int)]) hp1
        refine ⟨lw, p1, natsV row.1, _, rfl, rfl, Sn _ _ (SS3 _ _ hl), upd_same, by unfold natsV; rw [List.length_map]; exact Nat.le_trans (show row.1.length + 1 ≤ 1000 by omega) (by decide), fun p2 hp2 => ?_⟩
        have S4 := Sn.trans (same_new (o := .lst (natsV row.1 ++ [V.int (i : Int)])) hp2)
        have g2 : upd (upd H3 p1 (.lst [V.int (i : Int)])) p2 (.lst (natsV row.1 ++ [V.int (i : Int)])) p2 = some (.lst (natsV (row.1 ++ [i]))) := by
          rw [upd_same]
          unfold natsV
          rw [List.map_append]
          rfl
        have hp2' : H3 p2 = none := by
          cases z : H3 p2 with
          | none => rfl
          | some u => rw [Sn _ _ z] at hp2; cases hp2
        generalize upd (upd H3 p1 (.lst [V.int (i : Int)])) p2 (.lst (natsV row.1 ++ [V.int (i : Int)])) = H4 at *
        have hR4 := hR.same (SS3.trans S4)
        repeat walk_at "s"
        refine ⟨a, t, r, i, _, rfl, hR4, S4.tup ht3, bl.mono (by decide), size_pos hd i, fun H5 m S5 hm => ?_⟩
        repeat walk_at "s"
        refine ⟨szA, fun p3 hp3 => ?_⟩
        have S6 := S5.trans (same_new (o := .lst [V.ref m]) hp3)
        have S36 := S4.trans S6
        repeat walk_at "s"
        refine ⟨li, p3, as.map V.ref, _, rfl, rfl, S36 _ _ (SS3 _ _ hi0), upd_same, by rw [List.length_map]; exact Nat.le_trans (show as.length + 1 ≤ 1000 by omega) (by decide), fun p4 hp4 => ?_⟩
        have S7 := same_new (o := .lst (as.map V.ref ++ [V.ref m])) hp4
        have g4 : upd (upd H5 p3 (.lst [V.ref m])) p4 (.lst (as.map V.ref ++ [V.ref m])) p4 = some (.lst ((as ++ [m]).map V.ref)) := by
          rw [upd_same, List.map_append]
          rfl
        have hp4' : H3 p4 = none := by
          cases z : H3 p4 with
          | none => rfl
          | some u => rw [S36 _ _ z] at hp4; cases hp4
        have S37 := S36.trans S7
        have S67 := S6.trans S7
        have S57 := (same_new (o := .lst [V.ref m]) hp3).trans S7
        generalize upd (upd H5 p3 (.lst [V.ref m])) p4 (.lst (as.map V.ref ++ [V.ref m])) = H6 at *
        repeat walk_at "s"
        refine ⟨sz2, fun tp htp => ?_⟩
        have S8 := same_new (o := .tup [V.ref p2, V.ref p4]) htp
        have S38 := S37.trans S8
        have gt : SqT K (upd H6 tp (.tup [V.ref p2, V.ref p4])) tp [V.ref p2, V.ref p4] := SqT.of upd_same
        generalize upd H6 tp (.tup [V.ref p2, V.ref p4]) = H7 at *
        repeat walk_at "s"
        refine ⟨l, _, _, rfl, rfl, S38 _ _ gl3, by rw [List.length_map]; exact sz1' (by omega), ?_⟩
        have e7 : (ts.map V.ref ++ [V.ref tp]) = (ts ++ [tp]).map V.ref := by rw [List.map_append]; rfl
        rw [e7]
        have gl7 := S38 _ _ gl3
        repeat walk_at "s"
        refine ⟨ts ++ [tp], _, rfl, same_put (SS3.trans S38) hl0, upd_same, tup_put gl7 (S38.tup ht3), fun av h => ?_⟩
        rw [longTo_yes c']
        have old : ∀ {p : Addr}, H3 p = none → p ∉ l :: av := fun {p} hp q => by
          rcases List.mem_cons.mp q with q | q
          · rw [q, gl3] at hp; cases hp
          · cases z : H p with
            | none => exact h p q z
            | some u => rw [SS3 _ _ z] at hp; cases hp
        refine (((inv av h).same (S3.trans S38)).put gl7 List.mem_cons_self).app ?_
        refine (RowsIn.one gt (old hp2') (old hp4') ⟨S8 _ _ (S67 _ _ g2), as ++ [m], S8 _ _ g4, by simp [hal], fun j a' q e1 e2 => ?_⟩).put gl7 List.mem_cons_self
        by_cases z : j < as.length
        · rw [List.getElem?_append_left z] at e1
          rw [List.getElem?_append_left (by rw [← hal]; exact z)] at e2
          exact (SS3.trans S38).tup (hq j a' q e1 e2)
        · rw [List.getElem?_append_right (by omega)] at e1
          rw [List.getElem?_append_right (by rw [← hal]; omega), ← hal] at e2
          have z0 : j - as.length = 0 := by
            have := (List.getElem?_eq_some_iff.mp e1).1
            simp at this
            omega
          rw [z0] at e1 e2
          cases e1
          cases e2
          exact (S57.trans S8).tup hm
      · repeat walk_at "s"
        refine ⟨ts, _, rfl, S.trans S3, S3 _ _ gl, S3.tup ht, fun av h => ?_⟩
        rw [longTo_no (of_decide_eq_false c)]
        exact (inv av h).same S3
    · obtain ⟨ts, x6, rfl, S, gl, ht, inv⟩ := z
      repeat walk_at "s"
      exact k _ l ts S gl fun av h => (inv av h).less fun x hx => List.mem_cons_of_mem _ hx
end
end Rt
set_option Elab.async false
set_option linter.all false
set_option maxRecDepth 100000
set_option maxHeartbeats 4000000
namespace Rt
open PySem PySem.Spec PyProof.Rows L2
open C8 (Cal Met Mak pe_c pe_mk pe_mt pe_mt0 pe_gc)
local macro_rules | `(tactic| walk_at "bd") => `(tactic| first
  | assumption | exact Bd.sub (by walk_at "bd") (by walk_at "bd") | exact Bd.add (by walk_at "bd") (by walk_at "bd") | exact Bd.mul (by walk_at "bd") (by walk_at "bd") | exact Bd.neg (by walk_at "bd") | exact Bd.lit (by decide))
local macro_rules | `(tactic| walk_at "r") => `(tactic| with_reducible first
  | refine r_seq ?_ | refine r_ret ?_ | refine r_asg ?_ | refine r_drop ?_ | refine r_op ?_ | refine r_un ?_ | refine r_c ?_ | refine r_cons ?_ | refine r_nil ?_ | refine r_i0 ?_ | refine r_U ?_ | refine r_name ?_ | refine r_if ?_ | refine r_test ?_ | refine r_tB ?_ | refine r_bl ?_
  | refine r_call ?_ | refine r_meth ?_ | refine r_fld ?_ | refine r_tup ?_ | refine r_lst ?_ | refine r_cb ?_ | refine r_andV ?_ | refine r_orV ?_ | refine r_notV ?_ | refine r_and ?_ | refine r_or ?_ | refine r_not ?_ | refine r_eqI ?_ | refine r_neI ?_ | refine r_eqB ?_ | refine r_neB ?_
  | refine r_next ?_ | refine r_par ?_ | refine r_lc ?_ | refine r_yes ?_ | refine r_iList ?_ | refine r_iRng1 ?_ | refine r_lstRg ?_ | refine r_rg1 ?_ | refine r_gcons ?_ | refine r_gnil ?_ | refine r_var (by with_unfolding_all rfl) ?_)
local macro_rules | `(tactic| walk_at "s") => `(tactic| first
  | walk_at "r" | (with_reducible refine r_itT rfl ?_) | (with_reducible refine r_itF rfl ?_) | (with_reducible refine r_ixT (by assumption) (by with_unfolding_all rfl) ?_) | ((with_reducible refine r_iM ?_ ?_); exact bd_mul (by walk_at "bd") (by walk_at "bd") (by decide)) | (with_reducible refine r_gtup (by assumption) (by with_unfolding_all rfl) ?_) | refine RoomAt.meth (by assumption) ?_)
local macro_rules | `(tactic| walk_at "d") => `(tactic| try dsimp only [cxOf, Cx.nox, Cx.wish])

theorem lastOr_mem {s : Q4} {l : List Q4} : lastOr s l = s ∧ l = [] ∨ lastOr s l ∈ l := by
  unfold lastOr
  rw [List.getLastD_eq_getLast?]
  cases e : l.getLast? with
  | none =>
    have := List.getLast?_eq_none_iff.mp e
    exact .inl ⟨rfl, this⟩
  | some q => exact .inr (List.mem_of_getLast? e)
/-- what a row of k walls keeps -/
structure RowLv (r : Eh.Room) (s : Q4) (k : Nat) (row : Rowi) : Prop where
  ok : RowOk r row
  len : row.2.length = k
  bd : ∀ q ∈ row.2, B4 (16 + k) q
theorem RowLv.last {r : Eh.Room} {s : Q4} {k : Nat} {row : Rowi} (h : RowLv r s k row) (s1 : s.w = 1) (bs : B4 16 s) : (lastOr s row.2).w = 1 ∧ B4 (16 + k) (lastOr s row.2) := by
  rcases lastOr_mem (s := s) (l := row.2) with ⟨e, _⟩ | m
  · rw [e]
    exact ⟨s1, bs.mono (by omega)⟩
  · exact ⟨(h.ok.one _ m).1, h.bd _ m⟩
theorem rows_lv {r : Eh.Room} {s : Q4} (R : RW r) (hd : RDir r) (s1 : s.w = 1) (bs : B4 16 s) : ∀ k, k ≤ 4 → ∀ row ∈ iRows r s k, RowLv r s k row
  | 0, _, row, h => by
    have e : row = ([], []) := List.mem_singleton.mp h
    subst e
    exact ⟨⟨rfl, by decide, fun j w q e1 => by simp at e1, fun q hq => by simp at hq⟩, rfl, fun q hq => by simp at hq⟩
  | k + 1, hk, row, h => by
    obtain ⟨row0, h0, h1⟩ := List.mem_flatMap.mp h
    have L := rows_lv R hd s1 bs k (by omega) row0 h0
    unfold iLonger at h1
    obtain ⟨wl, h2, rfl⟩ := List.mem_map.mp h1
    obtain ⟨l1, lb⟩ := L.last s1 bs
    have hs : 0 < iSide r wl (lastOr s row0.2) := by simpa using (List.mem_filter.mp h2).2
    have bm := b4_mir R hd (by omega) lb l1 wl
    refine ⟨rowOk_longer R hd L.ok (by have := L.len; omega) hs s1 (bm.mono (by omega)), by simp [L.len], fun q hq => ?_⟩
    rcases List.mem_append.mp hq with hq | hq
    · exact (L.bd q hq).mono (by omega)
    · rw [List.mem_singleton.mp hq]
      exact bm.mono (by omega)
theorem longer_len {r : Eh.Room} {s : Q4} {row : Rowi} : (iLonger r s row).length ≤ r.n + 2 := longTo_len (r.n + 2)
theorem flat_len {r : Eh.Room} {s : Q4} : ∀ l : List Rowi, (l.flatMap (iLonger r s)).length ≤ l.length * (r.n + 2)
  | [] => by simp
  | x :: l => by
    have ih := flat_len (r := r) (s := s) l
    have h := longer_len (r := r) (s := s) (row := x)
    rw [List.flatMap_cons, List.length_append, List.length_cons, Nat.add_mul]
    omega
theorem rows_len {r : Eh.Room} {s : Q4} : ∀ k, (iRows r s k).length ≤ (r.n + 2) ^ k
  | 0 => by simp [iRows]
  | k + 1 => by
    have ih := rows_len (r := r) (s := s) k
    have h := flat_len (r := r) (s := s) (iRows r s k)
    rw [Nat.pow_succ]
    exact Nat.le_trans h (Nat.mul_le_mul_right _ ih)
def iLevels (r : Eh.Room) (s e : Q4) (k : Nat) : List PathI := (List.range k).flatMap fun k => iFound r s e (iRows r s k)
theorem found_len {r : Eh.Room} {s e : Q4} {l : List Rowi} : (iFound r s e l).length ≤ l.length := by
  unfold iFound
  rw [List.length_map]
  exact List.length_filter_le _ _
theorem levels_succ {r : Eh.Room} {s e : Q4} {k : Nat} : iLevels r s e (k + 1) = iLevels r s e k ++ iFound r s e (iRows r s k) := by
  unfold iLevels
  rw [List.range_succ, List.flatMap_append]
  simp
theorem levels_len {r : Eh.Room} {s e : Q4} {b : Nat} : ∀ k, (∀ j, j < k → (iRows r s j).length ≤ b) → (iLevels r s e k).length ≤ k * b
  | 0, _ => by simp [iLevels]
  | k + 1, h => by
    have ih := levels_len (r := r) (s := s) (e := e) (b := b) k fun j hj => h j (by omega)
    have h2 := h k (by omega)
    have h3 := found_len (r := r) (s := s) (e := e) (l := iRows r s k)
    rw [levels_succ, List.length_append, Nat.add_mul]
    omega
theorem found_snoc {r : Eh.Room} {s e : Q4} {l : List Rowi} {x : Rowi} : iFound r s e (l ++ [x]) = iFound r s e l ++ (if iIsPath r s x.1 x.2 e = true then [⟨iSquare (lastOr s x.2) e, x.1⟩] else []) := by
  unfold iFound
  rw [List.filter_append, List.map_append]
  congr 1
  by_cases c : iIsPath r s x.1 x.2 e = true
  · rw [if_pos c, List.filter_cons_of_pos (p := fun row : Rowi => iIsPath r s row.1 row.2 e) c]; rfl
  · rw [if_neg c, List.filter_cons_of_neg (p := fun row : Rowi => iIsPath r s row.1 row.2 e) c]; rfl
section
variable {K : PySem.W.Frag} {H H' : Hp}
structure PathsIn (K : PySem.W.Frag) (H : Hp) (av : List Addr) (as : List Addr) (ps : List PathI) : Prop where
  len : as.length = ps.length
  at_ : ∀ (j : Nat) (a : Addr) (p : PathI), as[j]? = some a → ps[j]? = some p → ∃ dx lw, H a = some (.ins (He.ga K "Path") dx (pathF p.square lw)) ∧ lw ∉ av ∧ H lw = some (.lst (natsV p.walls))
theorem PathsIn.same {av as : List Addr} {ps : List PathI} (h : PathsIn K H av as ps) (e : Same H H') : PathsIn K H' av as ps :=
  ⟨h.len, fun j a p e1 e2 => let ⟨dx, lw, x, y, z⟩ := h.at_ j a p e1 e2; ⟨dx, lw, e _ _ x, y, e _ _ z⟩⟩
theorem PathsIn.put {av as : List Addr} {ps : List PathI} {l : Addr} {ys zs : List V} (h : PathsIn K H av as ps) (hl : H l = some (.lst ys)) (m : l ∈ av) : PathsIn K (upd H l (.lst zs)) av as ps :=
  ⟨h.len, fun j a p e1 e2 => let ⟨dx, lw, x, y, z⟩ := h.at_ j a p e1 e2; ⟨dx, lw, (upd_ne fun q => by rw [q, hl] at x; cases x).trans x, y, (upd_ne fun q => y (by rw [q]; exact m)).trans z⟩⟩
theorem PathsIn.new {av as : List Addr} {ps : List PathI} {p : Addr} (h : PathsIn K H av as ps) (hp : H p = none) : PathsIn K H (p :: av) as ps :=
  ⟨h.len, fun j a q e1 e2 => by
    obtain ⟨dx, lw, x, y, z⟩ := h.at_ j a q e1 e2
    refine ⟨dx, lw, x, fun m => ?_, z⟩
    rcases List.mem_cons.mp m with m | m
    · rw [m, hp] at z; cases z
    · exact y m⟩
theorem PathsIn.less {av av' as : List Addr} {ps : List PathI} (h : PathsIn K H av as ps) (s : ∀ x ∈ av', x ∈ av) : PathsIn K H av' as ps :=
  ⟨h.len, fun j a p e1 e2 => let ⟨dx, lw, x, y, z⟩ := h.at_ j a p e1 e2; ⟨dx, lw, x, fun q => y (s _ q), z⟩⟩
theorem PathsIn.nil {av : List Addr} : PathsIn K H av [] [] := ⟨rfl, fun j t row e1 _ => by simp at e1⟩
theorem PathsIn.snoc {av as : List Addr} {ps : List PathI} {a dx lw : Addr} {p : PathI} (h : PathsIn K H av as ps) (x : H a = some (.ins (He.ga K "Path") dx (pathF p.square lw))) (y : lw ∉ av) (z : H lw = some (.lst (natsV p.walls))) : PathsIn K H av (as ++ [a]) (ps ++ [p]) := by
  refine ⟨by rw [List.length_append, List.length_append, h.len]; rfl, fun j t row e1 e2 => ?_⟩
  by_cases q : j < as.length
  · rw [List.getElem?_append_left q] at e1
    rw [List.getElem?_append_left (by rw [← h.len]; exact q)] at e2
    exact h.at_ j t row e1 e2
  · rw [List.getElem?_append_right (by omega)] at e1
    rw [List.getElem?_append_right (by rw [← h.len]; omega), ← h.len] at e2
    have z0 : j - as.length = 0 := by
      have := (List.getElem?_eq_some_iff.mp e1).1
      simp at this
      omega
    rw [z0] at e1 e2
    cases e1
    cases e2
    exact ⟨dx, lw, x, y, z⟩
end
section
variable {P : Program} {w : World} {K : PySem.W.Frag} {mg : Str → Option Value} {base : Heap}
theorem r_make {C : Addr} {sp : Sp} {dvs : List V} {E : XK} {t : TA} {σ : L2.St} {H : Hp} {Q : VK} (h : t σ H fun vs H1 => ∀ x dx, H1 x = none → H1 dx = none → dx ≠ x →
  sp (.ref x :: (vs ++ dvs)) (upd (upd H1 dx (.own x)) x (.ins C dx [])) (fun v H2 => v = .non ∧ Q (.ref x) H2) E) : tMake C sp dvs E t σ H Q := h
def spPaths (K : PySem.W.Frag) : Sp := fun vs H Q _ => ∃ (a b c : Addr) (r : Eh.Room) (s e : Q4) (most : Nat), vs = [.ref a, .ref b, .ref c, .int (most : Int)] ∧ RoomAt K H a r ∧ P4 K H b s ∧ P4 K H c e ∧
  s.w = 1 ∧ B4 16 s ∧ e.w = 1 ∧ B4 16 e ∧ RDir r ∧ most ≤ 4 ∧ (r.n + 2) ^ most ≤ 20000 ∧ ∀ H' F as, Same H H' → H' F = some (.lst (as.map V.ref)) → PathsIn K H' [] as (iPaths r s e most) → Q (.ref F) H'
theorem ok_paths (T : Tx K mg base) : Cal P w K mg base 11 "paths" (spPaths K) [] := by
  refine mkC T.f_paths T.g_paths sc_paths (fun _ _ _ _ _ _ us hl => match us, hl with | [_, _, _, _], _ => rfl) (fun vs H Q E h => ?_) (fun f cdv A outer s H vs Q E hr h => ⟨_, (pss_cons (ps_set (i := 4) sc_paths.nd rfl (Or.inl rfl) (pe_lst pa_nil))
      (pss_cons (ps_set (i := 5) sc_paths.nd rfl (Or.inl rfl) (pe_lst (pa_cons (pe_tup (pa_cons (pe_lst pa_nil) (pa_cons (pe_lst pa_nil) pa_nil))) pa_nil)))
      (pss_cons (ps_for PassesOwn.never rfl (pi_range1 (by rfl) T.n_range (pa_cons (pe_op op_add (pv 3) pe_int) pa_nil)) (pg_name (i := 6) sc_paths.nd rfl (Or.inl rfl)) (pss_cons (ps_set (i := 7) sc_paths.nd rfl (Or.inl rfl) (pe_lst pa_nil))
      (pss_cons (ps_for PassesOwn.never rfl (pi_list (pv 5)) (pg_tup rfl (pgs_cons (pg_name (i := 8) sc_paths.nd rfl (Or.inl rfl)) (pgs_cons (pg_name (i := 9) sc_paths.nd rfl (Or.inl rfl)) pgs_nil))) (pss_cons (ps_if (pt_val (pe_c (ok_is_path T) hr (by decide) rfl (pa_cons (pv 0) (pa_cons (pv 1) (pa_cons (pv 8) (pa_cons (pv 9) (pa_cons (pv 2) pa_nil))))))) (pss_one (ps_expr (pe_bm PySem.F.plainAttrs_list PySem.F.slot_list_append PySem.F.type_list_append mt_append (pv 4) (pa_cons (pe_mk (ok_Path_init T) hr (by decide) rfl (pa_cons (pe_c (ok_square_between T) hr (by decide) rfl (pa_cons (pe_ix (r := rIxL K) ix_list (pe_orT (pv 9) (pe_one (pe_lst (pa_cons (pv 1) pa_nil)))) (pe_un un_neg pe_int) (fun _ _ => rfl)) (pa_cons (pv 2) pa_nil))) (pa_cons (pv 8) pa_nil))) pa_nil)))) pss_nil)
      (pss_one (ps_if (pt_cmpR op_lt (pv 6) (pv 3) (nomark _)) (pss_one (ps_expr (pe_bm PySem.F.plainAttrs_list PySem.F.slot_list_extend PySem.F.type_list_extend mt_extend (pv 7) (pa_cons (pe_c (ok_longer T) hr (by decide) rfl (pa_cons (pv 0) (pa_cons (pv 1) (pa_cons (pv 8) (pa_cons (pv 9) pa_nil))))) pa_nil)))) pss_nil))))
      (pss_one (ps_set (i := 5) sc_paths.nd rfl (Or.inl rfl) (pv 7))))))
      (pss_one (ps_ret (pv 4)))))), ?_⟩)
  · obtain ⟨a, b, c, r, s, e, most, rfl, _⟩ := h
    rfl
  · obtain ⟨a, b, c, r, s', e, most, rfl, hR, hb, hc, s1, bs, e1, be, hd, m4, m20, k⟩ := h
    have R := hR.rw_
    have lv := rows_lv R hd s1 bs
    have pw : ∀ j, j ≤ most → (iRows r s' j).length ≤ 20000 := fun j hj => Nat.le_trans (rows_len j) (Nat.le_trans (Nat.pow_le_pow_right (by omega) hj) m20)
    walk_at "d"
    repeat walk_at "s"
    refine ⟨sz0, fun F hF => ?_⟩
    have S1 := same_new (o := .lst []) hF
    have gF : upd H F (.lst []) F = some (.lst []) := upd_same
    generalize upd H F (.lst []) = H1 at *
    repeat walk_at "s"
    refine ⟨sz0, fun e0 he0 => ?_⟩
    repeat walk_at "s"
    refine ⟨sz0, fun e2 he2 => ?_⟩
    repeat walk_at "s"
    refine ⟨sz2, fun tp htp => ?_⟩
    repeat walk_at "s"
    refine ⟨szA, fun R0 hR0 => ?_⟩
    have Sa := same_new (o := .lst []) he0
    have Sb := same_new (o := .lst []) he2
    have Sc := same_new (o := .tup [V.ref e0, V.ref e2]) htp
    have Sd := same_new (o := .lst [V.ref tp]) hR0
    have S2 := ((Sa.trans Sb).trans Sc).trans Sd
    have g0 : upd (upd (upd (upd H1 e0 (.lst [])) e2 (.lst [])) tp (.tup [V.ref e0, V.ref e2])) R0 (.lst [V.ref tp]) e0 = some (.lst []) := ((Sb.trans Sc).trans Sd) _ _ upd_same
    have g2 : upd (upd (upd (upd H1 e0 (.lst [])) e2 (.lst [])) tp (.tup [V.ref e0, V.ref e2])) R0 (.lst [V.ref tp]) e2 = some (.lst []) := (Sc.trans Sd) _ _ upd_same
    have gt : SqT K (upd (upd (upd (upd H1 e0 (.lst [])) e2 (.lst [])) tp (.tup [V.ref e0, V.ref e2])) R0 (.lst [V.ref tp])) tp [V.ref e0, V.ref e2] := SqT.of (Sd _ _ upd_same)
    have gR : upd (upd (upd (upd H1 e0 (.lst [])) e2 (.lst [])) tp (.tup [V.ref e0, V.ref e2])) R0 (.lst [V.ref tp]) R0 = some (.lst ([tp].map V.ref)) := upd_same
    have he2' : H1 e2 = none := by
      cases z : H1 e2 with
      | none => rfl
      | some u => rw [Sa _ _ z] at he2; cases he2
    have hR0' : H1 R0 = none := by
      cases z : H1 R0 with
      | none => rfl
      | some u => rw [((Sa.trans Sb).trans Sc) _ _ z] at hR0; cases hR0
    generalize upd (upd (upd (upd H1 e0 (.lst [])) e2 (.lst [])) tp (.tup [V.ref e0, V.ref e2])) R0 (.lst [V.ref tp]) = H2 at *
    have nF : ∀ {x}, H1 x = none → x ≠ F := fun hx q => by rw [q, gF] at hx; cases hx
    repeat walk_at "s"
    refine r_for ?_
    repeat walk_at "s"
    refine ⟨_, rfl, by omega, by omega, ?_⟩
    rw [show ((most : Int) + 1).toNat = most + 1 by omega]
    refine for_range (lo := 0) (n := most + 1) (fun j σ H' => ∃ (R : Addr) (as ts : List Addr) (x6 x7 x8 x9 : Option V), σ = [some (.ref a), some (.ref b), some (.ref c), some (.int (most : Int)), some (.ref F), some (.ref R), x6, x7, x8, x9] ∧ Same H H' ∧ H' F = some (.lst (as.map V.ref)) ∧
      PathsIn K H' [F] as (iLevels r s' e j) ∧ (j ≤ most → R ≠ F ∧ H' R = some (.lst (ts.map V.ref)) ∧ RowsIn K H' [F] ts (iRows r s' j))) ?_ (fun j σ H' hj z => ?_) (fun σ H' z => ?_)
    · exact ⟨R0, [], [tp], _, _, _, _, rfl, S1.trans S2, S2 _ _ gF, PathsIn.nil, fun _ => ⟨nF hR0', gR, RowsIn.one gt (fun q => nF he0 (List.mem_singleton.mp q)) (fun q => nF he2' (List.mem_singleton.mp q)) ⟨g0, [], g2, rfl, fun j a q e1 => by simp at e1⟩⟩⟩
    · obtain ⟨R, as, ts, x6, x7, x8, x9, rfl, S, gF, inv, rest⟩ := z
      obtain ⟨nRF, gR, rows⟩ := rest (by omega)
      rw [Int.zero_add]
      repeat walk_at "s"
      refine ⟨sz0, fun G hG => ?_⟩
      have S3 := same_new (o := .lst []) hG
      have nRG : R ≠ G := fun q => by rw [q, hG] at gR; cases gR
      have nFG : F ≠ G := fun q => by rw [q, hG] at gF; cases gF
      have hGH : H G = none := by
        cases z : H G with
        | none => rfl
        | some u => rw [S _ _ z] at hG; cases hG
      have gG : upd H' G (.lst []) G = some (.lst (([] : List Addr).map V.ref)) := upd_same
      have inv := (inv.new hG).same S3
      have rows := (rows.new hG).same S3
      have gF := S3 _ _ gF
      have gR := S3 _ _ gR
      have S := S.trans S3
      generalize upd H' G (.lst []) = H3 at *
      repeat walk_at "s"
      refine r_for ?_
      repeat walk_at "s"
      refine ⟨R, rfl, ⟨_, SqL.of gR⟩, ?_⟩
      refine for_list (xs := ts.map V.ref) (fun i σ H'' => ∃ (as us : List Addr) (x8 x9 : Option V), σ = [some (.ref a), some (.ref b), some (.ref c), some (.int (most : Int)), some (.ref F), some (.ref R), some (.int (j : Int)), some (.ref G), x8, x9] ∧ Same H H'' ∧ H'' F = some (.lst (as.map V.ref)) ∧
        PathsIn K H'' [G, F] as (iLevels r s' e j ++ iFound r s' e ((iRows r s' j).take i)) ∧ H'' R = some (.lst (ts.map V.ref)) ∧ RowsIn K H'' [G, F] ts (iRows r s' j) ∧ H'' G = some (.lst (us.map V.ref)) ∧
        (j < most → RowsIn K H'' [G, F] us (((iRows r s' j).take i).flatMap (iLonger r s')))) ?_ (fun i σ H'' hi z => ?_) (fun i x σ H'' hx z => ?_) (fun σ H'' z => ?_)
      · refine ⟨as, [], _, _, rfl, S, gF, ?_, gR, rows, gG, fun _ => RowsIn.nil⟩
        rw [List.take_zero]
        simpa [iFound] using inv
      · obtain ⟨as, us, x8, x9, rfl, S, gF, inv, gR, _⟩ := z
        exact SqL.of gR
      · obtain ⟨as, us, x8, x9, rfl, S, gF, inv, gR, rows, gG, lon⟩ := z
        rw [List.getElem?_map] at hx
        cases et : ts[i]? with
        | none => rw [et] at hx; cases hx
        | some t =>
        rw [et] at hx
        cases hx
        have hi : i < (iRows r s' j).length := by
          rw [← rows.len]
          exact (List.getElem?_eq_some_iff.mp et).1
        have er : (iRows r s' j)[i]? = some (iRows r s' j)[i] := List.getElem?_eq_getElem hi
        obtain ⟨lw, li, ht, nlw, nli, hrow⟩ := rows.at_ i t _ et er
        have hlv := lv j (by omega) _ (List.mem_of_getElem? er)
        have hrl := pw j (by omega)
        rw [take_more er, found_snoc, ← List.append_assoc]
        rw [List.flatMap_append, List.flatMap_singleton]
        have hasl : as.length ≤ 120000 := by
          rw [inv.len, List.length_append]
          have h1 := levels_len (r := r) (s := s') (e := e) (b := 20000) j fun j' hj' => pw j' (by omega)
          have h2 := found_len (r := r) (s := s') (e := e) (l := (iRows r s' j).take i)
          have h3 := List.length_take_le' i (iRows r s' j)
          have : j * 20000 ≤ 4 * 20000 := Nat.mul_le_mul_right _ (by omega)
          omega
        have husl : j < most → us.length + (iLonger r s' (iRows r s' j)[i]).length ≤ 20000 := fun hjm => by
          rw [(lon hjm).len]
          have h1 := pw (j + 1) (by omega)
          have h2 : ((iRows r s' j).take (i + 1)).flatMap (iLonger r s') ++ ((iRows r s' j).drop (i + 1)).flatMap (iLonger r s') = iRows r s' (j + 1) := by
            rw [← List.flatMap_append, List.take_append_drop]
            rfl
          have h3 := congrArg List.length h2
          rw [take_more er, List.flatMap_append, List.flatMap_singleton, List.length_append, List.length_append] at h3
          omega
        generalize (iRows r s' j)[i] = row at *
        obtain ⟨l1, lb⟩ := hlv.last s1 bs
        have hR3 := hR.same S
        refine r_gtup ht rfl ?_
        repeat walk_at "s"
        refine ⟨a, b, lw, li, c, r, s', e, row, rfl, hR3, S.tup hb, hrow, S.tup hc, hlv.ok, bs.mono (by decide), s1, be.mono (by decide), e1, fun H4 S4 => ?_⟩
        have inv := inv.same S4
        have rows := rows.same S4
        have gF := S4 _ _ gF
        have gR := S4 _ _ gR
        have gG := S4 _ _ gG
        have hrow := hrow.same S4
        have S := S.trans S4
        have lon := fun h => (lon h).same S4
        -- what follows: the rows one wall longer
        have tail : ∀ (as' : List Addr) (H5 : Hp), Same H H5 → H5 F = some (.lst (as'.map V.ref)) → PathsIn K H5 [G, F] as' (iLevels r s' e j ++ iFound r s' e ((iRows r s' j).take i) ++ (if iIsPath r s' row.1 row.2 e = true then [⟨iSquare (lastOr s' row.2) e, row.1⟩] else [])) → H5 R = some (.lst (ts.map V.ref)) → RowsIn K H5 [G, F] ts (iRows r s' j) → H5 G = some (.lst (us.map V.ref)) →
            (j < most → RowsIn K H5 [G, F] us (((iRows r s' j).take i).flatMap (iLonger r s'))) → RowAt K H5 lw li row →
            ∀ D : Ends, (∀ σ H'', (∃ (as us : List Addr) (x8 x9 : Option V), σ = [some (.ref a), some (.ref b), some (.ref c), some (.int (most : Int)), some (.ref F), some (.ref R), some (.int (j : Int)), some (.ref G), x8, x9] ∧ Same H H'' ∧ H'' F = some (.lst (as.map V.ref)) ∧
              PathsIn K H'' [G, F] as (iLevels r s' e j ++ iFound r s' e ((iRows r s' j).take i) ++ (if iIsPath r s' row.1 row.2 e = true then [⟨iSquare (lastOr s' row.2) e, row.1⟩] else [])) ∧ H'' R = some (.lst (ts.map V.ref)) ∧ RowsIn K H'' [G, F] ts (iRows r s' j) ∧ H'' G = some (.lst (us.map V.ref)) ∧
              (j < most → RowsIn K H'' [G, F] us (((iRows r s' j).take i).flatMap (iLonger r s') ++ iLonger r s' row))) → D.nx σ H'') →
            tIfS (tTest (tOp (rI0 fun i j => V.bl (decide (i < j))) (tVar 6) (tVar 3)))
              (tDrop (tBM K "list" rExtend (tVar 7) (tCons (tCall (spLonger K) [] C8.E0 (tCons (tVar 0) (tCons (tVar 1) (tCons (tVar 8) (tCons (tVar 9) tNil))))) tNil))) tNext D
              [some (.ref a), some (.ref b), some (.ref c), some (.int (most : Int)), some (.ref F), some (.ref R), some (.int (j : Int)), some (.ref G), some (.ref lw), some (.ref li)] H5 := by
          intro as' H5 S gF inv gR rows gG lon hrow D hD
          repeat walk_at "s"
          refine r_iteB (fun cj => ?_) fun cj => ?_
          · have cj' : j < most := by have := of_decide_eq_true cj; omega
            repeat walk_at "s"
            refine r_bm ?_
            repeat walk_at "s"
            refine ⟨tyl gG, ?_⟩
            repeat walk_at "s"
            have hR5 := hR.same S
            refine ⟨a, b, lw, li, r, s', row, rfl, hR5, S.tup hb, hrow, hlv.ok, by rw [hlv.len]; omega, s1, bs, hd, lb.mono (by omega), fun H6 l ts' S6 gl new => ?_⟩
            repeat walk_at "s"
            have new := new [G, F] fun x hx => by
              rcases List.mem_cons.mp hx with q | q
              · rw [q, gG]; exact fun z => nomatch z
              · rw [List.mem_singleton.mp q, gF]; exact fun z => nomatch z
            have gG6 := S6 _ _ gG
            refine ⟨G, l, us.map V.ref, ts'.map V.ref, rfl, rfl, gG6, gl, ?_, ?_⟩
            · rw [List.length_map, List.length_map, new.len]
              exact Nat.le_trans (husl cj') (by decide)
            · refine r_next ?_
              rw [← List.map_append]
              refine hD _ _ ⟨as', us ++ ts', _, _, rfl, same_put (S.trans S6) hGH, (upd_ne nFG).trans (S6 _ _ gF), (inv.same S6).put gG6 List.mem_cons_self, (upd_ne nRG).trans (S6 _ _ gR), (rows.same S6).put gG6 List.mem_cons_self, upd_same, fun _ => ?_⟩
              exact (((lon cj').same S6).app new).put gG6 List.mem_cons_self
          · repeat walk_at "s"
            have cj' : ¬ j < most := by have := of_decide_eq_false cj; omega
            exact hD _ _ ⟨as', us, _, _, rfl, S, gF, inv, gR, rows, gG, fun h => absurd h cj'⟩
        repeat walk_at "s"
        refine r_iteB (fun cp => ?_) fun cp => ?_
        · obtain ⟨hl, ias, hi, hal, hq⟩ := id hrow
          rw [if_pos cp] at tail ⊢
          repeat walk_at "s"
          refine r_bm ?_
          repeat walk_at "s"
          refine ⟨tyl gF, ?_⟩
          repeat walk_at "s"
          refine r_make ?_
          repeat walk_at "s"
          refine r_orLast rfl rfl hi hal hq (S.tup hb) fun x H5 S5 hx => ?_
          repeat walk_at "s"
          refine hx _ fun t5 ht5 => ?_
          repeat walk_at "s"
          refine ⟨t5, c, _, e, rfl, ht5, (S.trans S5).tup hc, lb.mono (by omega), be.mono (by decide), fun H6 S6 => ?_⟩
          repeat walk_at "s"
          intro pa dx hpa hdx ne
          refine ⟨pa, dx, lw, _, rfl, upd_same, ?_⟩
          refine ⟨rfl, ?_⟩
          repeat walk_at "s"
          have S56 := S5.trans S6
          have hpaF : pa ≠ F := fun q => by rw [q, S56 _ _ gF] at hpa; cases hpa
          have S7 : Same H6 (upd (upd (upd H6 dx (.own pa)) pa (.ins (He.ga K "Path") dx [])) pa (.ins (He.ga K "Path") dx (pathF (iSquare (lastOr s' row.2) e) lw))) := by
            intro x u hx'
            rw [upd_upd, upd_ne (ne_of_none hx' hpa), upd_ne (ne_of_none hx' hdx)]
            exact hx'
          have gp : upd (upd (upd H6 dx (.own pa)) pa (.ins (He.ga K "Path") dx [])) pa (.ins (He.ga K "Path") dx (pathF (iSquare (lastOr s' row.2) e) lw)) pa = some (.ins (He.ga K "Path") dx (pathF (iSquare (lastOr s' row.2) e) lw)) := upd_same
          generalize upd (upd (upd H6 dx (.own pa)) pa (.ins (He.ga K "Path") dx [])) pa (.ins (He.ga K "Path") dx (pathF (iSquare (lastOr s' row.2) e) lw)) = H7 at *
          have S57 := S56.trans S7
          refine ⟨F, as.map V.ref, _, rfl, rfl, S57 _ _ gF, by rw [List.length_map]; exact sz1' (by omega), ?_⟩
          refine r_next ?_
          rw [show as.map V.ref ++ [V.ref pa] = (as ++ [pa]).map V.ref by rw [List.map_append]; rfl]
          have gF7 := S57 _ _ gF
          refine tail (as ++ [pa]) _ (same_put (S.trans S57) hF) upd_same ?_ ((upd_ne nRF).trans (S57 _ _ gR)) ((rows.same S57).put gF7 (by simp)) ((upd_ne nFG.symm).trans (S57 _ _ gG)) (fun h => ((lon h).same S57).put gF7 (by simp)) ((hrow.same S57).put gF7 (fun q => nlw (by simp [q])) fun q => nli (by simp [q])) _ (fun σ H'' z => z)
          exact ((inv.same S57).snoc (p := ⟨iSquare (lastOr s' row.2) e, row.1⟩) gp nlw (S57 _ _ hl)).put gF7 (by simp)
        · rw [if_neg (by rw [cp]; decide), List.append_nil] at tail
          rw [if_neg (by rw [cp]; decide), List.append_nil]
          refine r_next ?_
          exact tail as _ S gF inv gR rows gG lon hrow _ fun σ H'' z => z
      · obtain ⟨as, us, x8, x9, rfl, S, gF, inv, gR, rows, gG, lon⟩ := z
        have el : (ts.map V.ref).length = (iRows r s' j).length := by rw [List.length_map, rows.len]
        rw [el, List.take_of_length_le (Nat.le_refl _)] at inv lon
        repeat walk_at "s"
        refine ⟨G, as, us, _, _, _, _, rfl, S, gF, ?_, fun hj1 => ⟨nFG.symm, gG, (lon (by omega)).less fun x hx => List.mem_cons_of_mem _ hx⟩⟩
        rw [levels_succ]
        exact inv.less fun x hx => List.mem_cons_of_mem _ hx
    · obtain ⟨R, as, ts, x6, x7, x8, x9, rfl, S, gF, inv, rest⟩ := z
      repeat walk_at "s"
      exact k _ F as S gF (inv.less fun x hx => nomatch hx)
end
end Rt
set_option Elab.async false
set_option linter.all false
set_option maxRecDepth 100000
set_option maxHeartbeats 4000000
namespace Rt
open PySem PySem.Spec PyProof.Rows L2
open C8 (Cal Met Mak pe_c pe_mk pe_mt pe_mt0 pe_gc)
local macro_rules | `(tactic| walk_at "bd") => `(tactic| first
  | assumption | exact Bd.sub (by walk_at "bd") (by walk_at "bd") | exact Bd.add (by walk_at "bd") (by walk_at "bd") | exact Bd.mul (by walk_at "bd") (by walk_at "bd") | exact Bd.neg (by walk_at "bd") | exact Bd.lit (by decide))
local macro_rules | `(tactic| walk_at "r") => `(tactic| with_reducible first
  | refine r_seq ?_ | refine r_ret ?_ | refine r_asg ?_ | refine r_drop ?_ | refine r_op ?_ | refine r_un ?_ | refine r_c ?_ | refine r_cons ?_ | refine r_nil ?_ | refine r_i0 ?_ | refine r_U ?_ | refine r_name ?_ | refine r_if ?_ | refine r_test ?_ | refine r_tB ?_ | refine r_bl ?_
  | refine r_call ?_ | refine r_meth ?_ | refine r_fld ?_ | refine r_tup ?_ | refine r_lst ?_ | refine r_cb ?_ | refine r_andV ?_ | refine r_orV ?_ | refine r_notV ?_ | refine r_and ?_ | refine r_or ?_ | refine r_not ?_ | refine r_eqI ?_ | refine r_neI ?_ | refine r_eqB ?_ | refine r_neB ?_
  | refine r_next ?_ | refine r_par ?_ | refine r_lc ?_ | refine r_yes ?_ | refine r_iList ?_ | refine r_iRng1 ?_ | refine r_lstRg ?_ | refine r_rg1 ?_ | refine r_gcons ?_ | refine r_gnil ?_ | refine r_var (by with_unfolding_all rfl) ?_)
local macro_rules | `(tactic| walk_at "s") => `(tactic| first
  | walk_at "r" | (with_reducible refine r_itT rfl ?_) | (with_reducible refine r_itF rfl ?_) | (with_reducible refine r_ixT (by assumption) (by with_unfolding_all rfl) ?_) | ((with_reducible refine r_iM ?_ ?_); exact bd_mul (by walk_at "bd") (by walk_at "bd") (by decide)) | (with_reducible refine r_gtup (by assumption) (by with_unfolding_all rfl) ?_) | refine RoomAt.meth (by assumption) ?_)
local macro_rules | `(tactic| walk_at "d") => `(tactic| try dsimp only [cxOf, Cx.nox, Cx.wish])

section
variable {σ : L2.St} {H : Hp} {Q : VK} {K : PySem.W.Frag} {te : TE}
theorem r_sl {r : V → Option Int → Option Int → Hp → VK → Prop} {tl th : TO} (h : te σ H fun x H1 => tl σ H1 fun l H2 => th σ H2 fun u H3 => r x l u H3 Q) : tSl r te tl th σ H Q := h
theorem r_po0 {R : Option Int → Hp → Prop} (h : R none H) : tNoPart σ H R := h
theorem r_po1 {R : Option Int → Hp → Prop} (h : te σ H fun x H1 => ∃ i, x = .int i ∧ R (some i) H1) : tPart te σ H R := h
theorem r_inl {i : Int} {A : Int → Prop} (h : A i) : ∃ j, V.int i = .int j ∧ A j := ⟨i, rfl, h⟩
theorem r_sfld {ta tv : TE} {f : Str} {D : Ends} (h : tv σ H fun y H1 => ta σ H1 fun x H2 => ∃ a C dx fs, x = .ref a ∧ H2 a = some (.ins C dx fs) ∧ Cls K C ∧ NoAttr K C f ∧ fs.length < 1000 ∧ D.nx σ (upd H2 a (.ins C dx (putF f y fs)))) : sFld K ta tv f D σ H := h
end
local macro_rules | `(tactic| walk_at "s") => `(tactic| with_reducible first
  | refine r_sl ?_ | refine r_po0 ?_ | refine r_po1 ?_ | refine r_for ?_ | refine r_bm ?_ | refine r_make ?_ | refine r_sfld ?_ | refine r_inl ?_)

theorem rg_int (f : Nat → Int) (n : Nat) : ((rgL 0 n).filter fun _ => true).map (fun x => V.int (f (natV x))) = ((List.range n).map f).map V.int := by
  rw [List.filter_eq_self.mpr fun _ _ => rfl]
  unfold rgL
  rw [List.map_map, List.map_map]
  refine List.map_congr_left fun i _ => ?_
  show V.int (f ((0 + (i : Int)).toNat)) = V.int (f i)
  rw [Int.zero_add, Int.toNat_natCast]
section
variable {P : Program} {w : World} {K : PySem.W.Frag} {mg : Str → Option Value} {base : Heap}
def spSign : Sp := fun vs H Q _ => ∃ n : Int, vs = [.int n] ∧ Q (.int (iSign n)) H
theorem ok_sign (T : Tx K mg base) : Cal P w K mg base 1 "sign" spSign [] := by
  refine mkC T.f_sign T.g_sign sc_sign (fun _ _ _ _ _ _ us hl => match us, hl with | [_], _ => rfl) (fun vs H Q E h => ?_) (fun f cdv A outer s H vs Q E hr h => ⟨_, (pss_one (ps_ret (pe_op op_sub (pe_callTy call_int1 (by rfl) T.n_int (by decide +kernel) (pa_cons (pe_cmpR op_gt (pv 0) pe_int (nomark _)) pa_nil)) (pe_callTy call_int1 (by rfl) T.n_int (by decide +kernel) (pa_cons (pe_cmpR op_lt (pv 0) pe_int (nomark _)) pa_nil))))), ?_⟩)
  · obtain ⟨n, rfl, _⟩ := h
    rfl
  · obtain ⟨n, rfl, k⟩ := h
    walk_at "d"
    repeat walk_at "s"
    refine .inr ⟨_, rfl, ?_⟩
    repeat walk_at "s"
    refine .inr ⟨_, rfl, ?_⟩
    refine r_i0 ?_
    have e : (if decide (0 < n) = true then (1 : Int) else 0) - (if decide (n < 0) = true then 1 else 0) = iSign n := by
      unfold iSign
      by_cases h1 : 0 < n
      · have h2 : ¬ n < 0 := by omega
        simp [h1, h2]
      · by_cases h2 : n < 0
        · simp [h1, h2]
        · simp [h1, h2]
    rw [e]
    exact k
def spHasDir (K : PySem.W.Frag) : Sp := fun vs H Q _ => ∃ (a : Addr) (x y : Int), vs = [.ref a] ∧ SqT K H a [.int x, .int y] ∧ ∀ H', Same H H' → Q (.bl (iHasDir (x, y))) H'
theorem ok_has_direction (T : Tx K mg base) : Cal P w K mg base 1 "has_direction" (spHasDir K) [] := by
  refine mkC T.f_has_direction T.g_has_direction sc_has_direction (fun _ _ _ _ _ _ us hl => match us, hl with | [_], _ => rfl) (fun vs H Q E h => ?_) (fun f cdv A outer s H vs Q E hr h => ⟨_, (pss_cons (ps_asg (pv 0) (pg_tup rfl (pgs_cons (pg_name (i := 1) sc_has_direction.nd rfl (Or.inl rfl)) (pgs_cons (pg_name (i := 2) sc_has_direction.nd rfl (Or.inl rfl)) pgs_nil))))
      (pss_one (ps_ret (pe_and (pe_cmpR (r := rNeD K) (op_neD hr.units) (pe_tup (pa_cons (pv 1) (pa_cons (pv 2) pa_nil))) (pe_tup (pa_cons pe_int (pa_cons pe_int pa_nil))) (nomark _)) (pe_one (pe_or (pe_cmpR op_eq (pv 1) pe_int (nomark _)) (pe_or (pe_cmpR op_eq (pv 2) pe_int (nomark _)) (pe_one (pe_cmpR op_eq (pe_callB call_abs (by rfl) T.n_abs (by decide +kernel) (pa_cons (pv 1) pa_nil)) (pe_callB call_abs (by rfl) T.n_abs (by decide +kernel) (pa_cons (pv 2) pa_nil)) (nomark _)))))))))), ?_⟩)
  · obtain ⟨a, x, y, rfl, _⟩ := h
    rfl
  · obtain ⟨a, x, y, rfl, ha, k⟩ := h
    walk_at "d"
    repeat walk_at "s"
    refine ⟨sz2, fun p hp => ?_⟩
    repeat walk_at "s"
    refine ⟨sz2, fun q hq => ?_⟩
    have S1 := (same_new (o := .tup [V.int x, V.int y]) hp).trans (same_new (o := .tup [V.int 0, V.int 0]) hq)
    have gp : SqT K (upd (upd H p (.tup [V.int x, V.int y])) q (.tup [V.int 0, V.int 0])) p [V.int x, V.int y] := SqT.of ((same_new (o := .tup [V.int 0, V.int 0]) hq) _ _ upd_same)
    have gq : SqT K (upd (upd H p (.tup [V.int x, V.int y])) q (.tup [V.int 0, V.int 0])) q [V.int 0, V.int 0] := SqT.of upd_same
    generalize upd (upd H p (.tup [V.int x, V.int y])) q (.tup [V.int 0, V.int 0]) = H1 at *
    have k1 := k _ S1
    have e : iHasDir (x, y) = (if decide ([x, y] = [0, 0]) = true then false else if decide (x = 0) = true then true else if decide (y = 0) = true then true else decide ((if x < 0 then -x else x) = (if y < 0 then -y else y))) := by
      unfold iHasDir
      by_cases h1 : x = 0
      · by_cases h2 : y = 0
        · simp [h1, h2]
        · simp [h1, h2]
      · by_cases h2 : y = 0
        · simp [h1, h2]
        · have : (x.natAbs = y.natAbs) ↔ ((if x < 0 then -x else x) = (if y < 0 then -y else y)) := by split <;> split <;> omega
          simp [h1, h2, this]
    rw [e] at k1
    refine r_neTs (ns := [x, y]) (ms := [0, 0]) gp gq rfl rfl ?_
    repeat walk_at "s"
    refine r_iteB (fun c => ?_) fun c => ?_
    · have c1 : decide ([x, y] = [0, 0]) = false := by
        cases z : decide ([x, y] = [0, 0]) with
        | true => rw [z] at c; cases c
        | false => rfl
      rw [c1, if_neg (by decide)] at k1
      repeat walk_at "s"
      refine r_iteB (fun c2 => ?_) fun c2 => ?_
      · rw [c2, if_pos rfl] at k1
        exact k1
      · rw [c2, if_neg (by decide)] at k1
        repeat walk_at "s"
        refine r_iteB (fun c3 => ?_) fun c3 => ?_
        · rw [c3, if_pos rfl] at k1
          exact k1
        · rw [c3, if_neg (by decide)] at k1
          repeat walk_at "s"
          refine ⟨_, rfl, ?_⟩
          repeat walk_at "s"
          refine ⟨_, rfl, ?_⟩
          refine r_eqI ?_
          exact k1
    · have c1 : decide ([x, y] = [0, 0]) = true := by
        cases z : decide ([x, y] = [0, 0]) with
        | true => rfl
        | false => rw [z] at c; cases c
      rw [c1, if_pos rfl] at k1
      exact k1
def spApart (K : PySem.W.Frag) : Sp := fun vs H Q _ => ∃ (a : Addr) (r : Eh.Room) (i j : Nat), vs = [.ref a, .int (i : Int), .int (j : Int)] ∧ RoomAt K H a r ∧ ∀ H', Same H H' → Q (.bl (iApart r i j)) H'
theorem ok_are_apart (T : Tx K mg base) : Cal P w K mg base 2 "are_apart" (spApart K) [] := by
  refine mkC T.f_are_apart T.g_are_apart sc_are_apart (fun _ _ _ _ _ _ us hl => match us, hl with | [_, _, _], _ => rfl) (fun vs H Q E h => ?_) (fun f cdv A outer s H vs Q E hr h => ⟨_, (pss_cons (ps_set (i := 3) sc_are_apart.nd rfl (Or.inl rfl) (pe_mt0 (ok_Room_many T) hr (by decide) (pv 0)))
      (pss_one (ps_ret (pe_cmpR (r := rIn K true) op_notIn_seq (pe_op op_mod (pe_op op_sub (pv 1) (pv 2)) (pv 3)) (pe_tup (pa_cons pe_int (pa_cons pe_int (pa_cons (pe_op op_sub (pv 3) pe_int) pa_nil)))) (by rfl))))), ?_⟩)
  · obtain ⟨a, r, i, j, rfl, _⟩ := h
    rfl
  · obtain ⟨a, r, i, j, rfl, hR, k⟩ := h
    have n3 := hR.rw_.n3
    walk_at "d"
    repeat walk_at "s"
    refine ⟨a, r, rfl, hR, ?_⟩
    repeat walk_at "s"
    refine r_iC (show (0 : Int) < r.n by omega) ?_
    repeat walk_at "s"
    refine ⟨sz3, fun p hp => ?_⟩
    refine ⟨p, _, rfl, .inr (SqT.of upd_same), rfl, rfl, ?_⟩
    have k1 := k _ (same_new (o := .tup [V.int 0, V.int 1, V.int ((r.n : Int) - 1)]) hp)
    have e : (if true = true then !inV (V.int (((i : Int) - (j : Int)) % (r.n : Int))) [V.int 0, V.int 1, V.int ((r.n : Int) - 1)] else inV (V.int (((i : Int) - (j : Int)) % (r.n : Int))) [V.int 0, V.int 1, V.int ((r.n : Int) - 1)]) = iApart r i j := by
      rw [if_pos rfl]
      unfold iApart
      generalize ((i : Int) - (j : Int)) % (r.n : Int) = d
      have q : ∀ a b : Int, (a == b) = decide (b = a) := fun a b => by
        rw [Bool.eq_iff_iff, beq_iff_eq, decide_eq_true_iff]
        exact ⟨fun h => h.symm, fun h => h.symm⟩
      show (!((0 == d) || ((1 == d) || (((r.n : Int) - 1 == d) || false)))) = !(decide (d = 0) || (decide (d = 1) || decide (d = (r.n : Int) - 1)))
      rw [q, q, q, Bool.or_false]
    rw [e]
    exact k1
def spArea (K : PySem.W.Frag) : Sp := fun vs H Q _ => ∃ (a : Addr) (r : Eh.Room), vs = [.ref a] ∧ RoomAt K H a r ∧ ∀ H', Same H H' → Q (.int (iArea r)) H'
theorem ok_area (T : Tx K mg base) : Cal P w K mg base 3 "area" (spArea K) [] := by
  refine mkC T.f_area T.g_area sc_area (fun _ _ _ _ _ _ us hl => match us, hl with | [_], _ => rfl) (fun vs H Q E h => ?_) (fun f cdv A outer s H vs Q E hr h => ⟨_, (pss_one (ps_ret (pe_callB (cr_sum rfl) (by rfl) T.n_sum (by decide +kernel) (pa_cons (pe_lc (own := [("i", 1)]) rfl sc_area.nd (pi_range1 (by rfl) T.n_range (pa_cons (pe_mt0 (ok_Room_many T) hr (by decide) (pv 0)) pa_nil)) (blkOk_by (own := [("i", 1)]) (N := ["room", "i"]) (sc := defScope s_area) (by decide +kernel)) (fun _ _ _ _ _ => (pg_name (i := 1) sc_area.nd rfl (Or.inl rfl))) (fun _ _ _ _ _ => pts_nil) (fun _ _ _ _ _ => (pe_c (ok_cross T) hr (by decide) rfl (pa_cons (pe_mt (ok_Room_corner T) hr (by decide) (pv 0) (pa_cons (pv 1) pa_nil)) (pa_cons (pe_mt (ok_Room_corner T) hr (by decide) (pv 0) (pa_cons (pe_op op_add (pv 1) pe_int) pa_nil)) pa_nil))))) pa_nil)))), ?_⟩)
  · obtain ⟨a, r, rfl, _⟩ := h
    rfl
  · obtain ⟨a, r, rfl, hR, k⟩ := h
    have R := hR.rw_
    have n64 := R.n64
    walk_at "d"
    repeat walk_at "s"
    refine ⟨a, r, rfl, hR, ?_⟩
    refine ⟨_, rfl, by omega, by omega, fun D hD => ?_⟩
    rw [show ((r.n : Int)).toNat = r.n from Int.toNat_natCast _]
    refine lcRangeV (lo := 0) (n := r.n) (f := fun x => .int (iCross ((r.corner (natV x)).x, (r.corner (natV x)).y) ((r.corner (natV x + 1)).x, (r.corner (natV x + 1)).y))) (p := fun _ => true) hD (by omega) (fun i H5 G F hi S5 h1 h2 => ?_) (fun H5 S5 e => ?_)
    · rw [Int.zero_add] at h2 ⊢
      refine ⟨rfl, ?_⟩
      refine r_yes ?_
      refine r_itT rfl ?_
      have hR5 := hR.same S5
      repeat walk_at "s"
      refine ⟨a, r, i, rfl, hR5, fun p1 h1' => ?_⟩
      repeat walk_at "s"
      refine ⟨a, r, i + 1, by simp, hR5, fun p2 h2' => ?_⟩
      repeat walk_at "s"
      exact ⟨p1, p2, _, _, _, _, rfl, h1', h2', ⟨(R.bx i).mono (by decide), (R.by_ i).mono (by decide), (R.bx (i + 1)).mono (by decide), (R.by_ (i + 1)).mono (by decide)⟩, h2 rfl _ (Same.refl _)⟩
    · rw [rg_int fun i => iCross ((r.corner i).x, (r.corner i).y) ((r.corner (i + 1)).x, (r.corner (i + 1)).y)] at e
      repeat walk_at "s"
      exact ⟨D, _, rfl, SqL.of e, k _ S5⟩
def spMeet (K : PySem.W.Frag) : Sp := fun vs H Q _ => ∃ (a : Addr) (r : Eh.Room) (i j : Nat), vs = [.ref a, .int (i : Int), .int (j : Int)] ∧ RoomAt K H a r ∧ ∀ H', Same H H' → Q (.bl (iMeet r i j)) H'
theorem b4_cp {r : Eh.Room} (R : RW r) (i : Nat) : B4 20 (cp r i) := ⟨(R.bx i).mono (by decide), (R.by_ i).mono (by decide), bd_of (by show _ < (0 : Int); decide) (by show (0 : Int) < _; decide), bd_of (by show _ < (1 : Int); decide) (by show (1 : Int) < _; decide)⟩
theorem bd_sign (n : Int) : Bd 2 (iSign n) := by
  unfold iSign
  split
  · exact ⟨by decide⟩
  · split
    · exact ⟨by decide⟩
    · exact ⟨by decide⟩
theorem r_cp {H : Hp} {Q : VK} {p1 q1 : Addr} {x y : Int} (h1 : SqT K H p1 [.int x, .int y]) (hq : H q1 = none) (k : ∀ p H', Same H H' → H p = none → H' p = some (.tup [.int x, .int y, .int 0, .int 1]) → Q (.ref p) H') : rCatT K (.ref p1) (.ref q1) (upd H q1 (.tup [.int 0, .int 1])) Q := by
  have S1 := same_new (o := .tup [V.int 0, V.int 1]) hq
  refine ⟨p1, q1, _, _, rfl, rfl, S1.tup h1, SqT.of upd_same, (fun z => nomatch z), (by show 4 ≤ sizeLine; decide), (fun z => nomatch z), fun _ p hp => ?_⟩
  refine k _ _ (S1.trans (same_new hp)) ?_ upd_same
  cases z : H p with
  | none => rfl
  | some u => rw [S1 _ _ z] at hp; cases hp
theorem two {m : Nat} {x u v : V} (h : [u, v][m]? = some x) : (m = 0 ∧ x = u) ∨ (m = 1 ∧ x = v) := by
  match m, h with
  | 0, h => cases h; exact .inl ⟨rfl, rfl⟩
  | 1, h => cases h; exact .inr ⟨rfl, rfl⟩
  | m + 2, h => simp at h
theorem ok_meet (T : Tx K mg base) : Cal P w K mg base 6 "meet" (spMeet K) [] := by
  refine mkC T.f_meet T.g_meet sc_meet (fun _ _ _ _ _ _ us hl => match us, hl with | [_, _, _], _ => rfl) (fun vs H Q E h => ?_) (fun f cdv A outer s H vs Q E hr h => ⟨_, (pss_cons (ps_set (i := 3) sc_meet.nd rfl (Or.inl rfl) (pe_lst (pa_cons (pe_op (r := rCatT K) op_catT (pe_mt (ok_Room_corner T) hr (by decide) (pv 0) (pa_cons (pv 2) pa_nil)) (pe_tup (pa_cons pe_int (pa_cons pe_int pa_nil)))) (pa_cons (pe_op (r := rCatT K) op_catT (pe_mt (ok_Room_corner T) hr (by decide) (pv 0) (pa_cons (pe_op op_add (pv 2) pe_int) pa_nil)) (pe_tup (pa_cons pe_int (pa_cons pe_int pa_nil)))) (pa_cons (pe_op (r := rCatT K) op_catT (pe_mt (ok_Room_corner T) hr (by decide) (pv 0) (pa_cons (pv 1) pa_nil)) (pe_tup (pa_cons pe_int (pa_cons pe_int pa_nil)))) (pa_cons (pe_op (r := rCatT K) op_catT (pe_mt (ok_Room_corner T) hr (by decide) (pv 0) (pa_cons (pe_op op_add (pv 1) pe_int) pa_nil)) (pe_tup (pa_cons pe_int (pa_cons pe_int pa_nil)))) pa_nil))))))
      (pss_cons (ps_if (PW.pt (pw_or (pt_val (pe_callB (cr_any rfl) (by rfl) T.n_any (by decide +kernel) (pa_cons (pe_lc (own := [("end", 6)]) rfl sc_meet.nd (pi_list (pe_slice (r := rSlL K) sl_list (pv 3) po_none (po_some pe_int))) (blkOk_by (own := [("end", 6)]) (N := ["room", "i", "j", "ends", "one", "other", "end"]) (sc := defScope s_meet) (by decide +kernel)) (fun _ _ _ _ _ => (pg_name (i := 6) sc_meet.nd rfl (Or.inl rfl))) (fun _ _ _ _ _ => pts_nil) (fun _ _ _ _ _ => (pe_mt (ok_Room_is_on T) hr (by decide) (pv 0) (pa_cons (pv 1) (pa_cons (pv 6) pa_nil))))) pa_nil))) (pw_or1 (pt_val (pe_callB (cr_any rfl) (by rfl) T.n_any (by decide +kernel) (pa_cons (pe_lc (own := [("end", 6)]) rfl sc_meet.nd (pi_list (pe_slice (r := rSlL K) sl_list (pv 3) (po_some pe_int) po_none)) (blkOk_by (own := [("end", 6)]) (N := ["room", "i", "j", "ends", "one", "other", "end"]) (sc := defScope s_meet) (by decide +kernel)) (fun _ _ _ _ _ => (pg_name (i := 6) sc_meet.nd rfl (Or.inl rfl))) (fun _ _ _ _ _ => pts_nil) (fun _ _ _ _ _ => (pe_mt (ok_Room_is_on T) hr (by decide) (pv 0) (pa_cons (pv 2) (pa_cons (pv 6) pa_nil))))) pa_nil)))))) (pss_one (ps_ret pe_bl)) pss_nil)
      (pss_cons (ps_set (i := 4) sc_meet.nd rfl (Or.inl rfl) (pe_op op_mulW (pe_c (ok_sign T) hr (by decide) rfl (pa_cons (pe_mt (ok_Room_beside T) hr (by decide) (pv 0) (pa_cons (pv 1) (pa_cons (pe_ix (r := rIxL K) ix_list (pv 3) pe_int (fun _ _ => rfl)) pa_nil))) pa_nil)) (pe_c (ok_sign T) hr (by decide) rfl (pa_cons (pe_mt (ok_Room_beside T) hr (by decide) (pv 0) (pa_cons (pv 1) (pa_cons (pe_ix (r := rIxL K) ix_list (pv 3) pe_int (fun _ _ => rfl)) pa_nil))) pa_nil))))
      (pss_cons (ps_set (i := 5) sc_meet.nd rfl (Or.inl rfl) (pe_op op_mulW (pe_c (ok_sign T) hr (by decide) rfl (pa_cons (pe_mt (ok_Room_beside T) hr (by decide) (pv 0) (pa_cons (pv 2) (pa_cons (pe_ix (r := rIxL K) ix_list (pv 3) pe_int (fun _ _ => rfl)) pa_nil))) pa_nil)) (pe_c (ok_sign T) hr (by decide) rfl (pa_cons (pe_mt (ok_Room_beside T) hr (by decide) (pv 0) (pa_cons (pv 2) (pa_cons (pe_ix (r := rIxL K) ix_list (pv 3) pe_int (fun _ _ => rfl)) pa_nil))) pa_nil))))
      (pss_one (ps_ret (pe_and (pe_cmpR op_lt (pv 4) pe_int (nomark _)) (pe_one (pe_cmpR op_lt (pv 5) pe_int (nomark _)))))))))), ?_⟩)
  · obtain ⟨a, r, i, j, rfl, _⟩ := h
    rfl
  · obtain ⟨a, r, i, j, rfl, hR, k⟩ := h
    have R := hR.rw_
    walk_at "d"
    repeat walk_at "s"
    refine ⟨a, r, j, rfl, hR, fun p1 h1 => ?_⟩
    repeat walk_at "s"
    refine ⟨sz2, fun q1 hq1 => ?_⟩
    refine r_cp h1 hq1 fun E1 H1 S1 n1 g1 => ?_
    have hR1 := hR.same S1
    repeat walk_at "s"
    refine ⟨a, r, j + 1, by simp, hR1, fun p2 h2 => ?_⟩
    repeat walk_at "s"
    refine ⟨sz2, fun q2 hq2 => ?_⟩
    refine r_cp h2 hq2 fun E2 H2 S2 n2 g2 => ?_
    have hR2 := hR1.same S2
    repeat walk_at "s"
    refine ⟨a, r, i, rfl, hR2, fun p3 h3 => ?_⟩
    repeat walk_at "s"
    refine ⟨sz2, fun q3 hq3 => ?_⟩
    refine r_cp h3 hq3 fun E3 H3 S3 n3 g3 => ?_
    have hR3 := hR2.same S3
    repeat walk_at "s"
    refine ⟨a, r, i + 1, by simp, hR3, fun p4 h4 => ?_⟩
    repeat walk_at "s"
    refine ⟨sz2, fun q4 hq4 => ?_⟩
    refine r_cp h4 hq4 fun E4 H4 S4 n4 g4 => ?_
    have d21 : E2 ≠ E1 := fun q => by rw [q, g1] at n2; cases n2
    have d43 : E4 ≠ E3 := fun q => by rw [q, g3] at n4; cases n4
    repeat walk_at "s"
    refine ⟨sz4, fun L hL => ?_⟩
    have S5 := same_new (o := .lst [V.ref E1, V.ref E2, V.ref E3, V.ref E4]) hL
    have t1 : P4 K (upd H4 L (.lst [V.ref E1, V.ref E2, V.ref E3, V.ref E4])) E1 (cp r j) := SqT.of (S5 _ _ (S4 _ _ (S3 _ _ (S2 _ _ g1))))
    have t2 : P4 K (upd H4 L (.lst [V.ref E1, V.ref E2, V.ref E3, V.ref E4])) E2 (cp r (j + 1)) := SqT.of (S5 _ _ (S4 _ _ (S3 _ _ g2)))
    have t3 : P4 K (upd H4 L (.lst [V.ref E1, V.ref E2, V.ref E3, V.ref E4])) E3 (cp r i) := SqT.of (S5 _ _ (S4 _ _ g3))
    have t4 : P4 K (upd H4 L (.lst [V.ref E1, V.ref E2, V.ref E3, V.ref E4])) E4 (cp r (i + 1)) := SqT.of (S5 _ _ g4)
    have gL : SqL K (upd H4 L (.lst [V.ref E1, V.ref E2, V.ref E3, V.ref E4])) L [V.ref E1, V.ref E2, V.ref E3, V.ref E4] := SqL.of upd_same
    have S05 := (((S1.trans S2).trans S3).trans S4).trans S5
    generalize upd H4 L (.lst [V.ref E1, V.ref E2, V.ref E3, V.ref E4]) = H5 at *
    have bc := b4_cp R
    repeat walk_at "s"
    refine ⟨L, _, rfl, gL, fun M hM => ?_⟩
    have S6 := same_new (o := .lst (cutV [V.ref E1, V.ref E2, V.ref E3, V.ref E4] none (some 2))) hM
    have gM : SqL K (upd H5 M (.lst (cutV [V.ref E1, V.ref E2, V.ref E3, V.ref E4] none (some 2)))) M [V.ref E1, V.ref E2] := SqL.of upd_same
    have S06 := S05.trans S6
    generalize upd H5 M (.lst (cutV [V.ref E1, V.ref E2, V.ref E3, V.ref E4] none (some 2))) = H6 at *
    repeat walk_at "s"
    refine ⟨_, rfl, ⟨_, gM⟩, fun D hD => ?_⟩
    refine lcListV (f := fun x => .bl (if x = .ref E1 then iOn r i (cp r j) else iOn r i (cp r (j + 1)))) (p := fun _ => true) hD gM (show 2 ≤ 1000000 by decide) (fun m x H7 G F hx S h1 h2 => ?_) (fun H7 S e => ?_)
    · refine ⟨rfl, ?_⟩
      refine r_yes ?_
      refine r_itT rfl ?_
      have S07 := S06.trans S
      have S57 := S6.trans S
      have hR7 := hR.same S07
      repeat walk_at "s"
      rcases two hx with ⟨rfl, rfl⟩ | ⟨rfl, rfl⟩
      · refine ⟨a, E1, r, i, cp r j, rfl, hR7, S57.tup t1, (bc j).mono (by decide), fun H8 S8 => ?_⟩
        have h3 := h2 rfl H8 S8
        rw [if_pos rfl] at h3
        exact h3
      · refine ⟨a, E2, r, i, cp r (j + 1), rfl, hR7, S57.tup t2, (bc (j + 1)).mono (by decide), fun H8 S8 => ?_⟩
        have h3 := h2 rfl H8 S8
        rw [if_neg (fun q => d21 (V.ref.inj q))] at h3
        exact h3
    · have e1 : H7 D = some (.lst ([iOn r i (cp r j), iOn r i (cp r (j + 1))].map V.bl)) := by
        rw [e]
        show some (HO.lst [V.bl (if V.ref E1 = .ref E1 then _ else _), V.bl (if V.ref E2 = .ref E1 then _ else _)]) = _
        rw [if_pos rfl, if_neg (fun q => d21 (V.ref.inj q))]
        rfl
      have S07 := S06.trans S
      have S57 := S6.trans S
      repeat walk_at "s"
      refine ⟨_, _, rfl, SqL.of e1, ?_⟩
      repeat walk_at "s"
      have k1 : ∀ H', Same H H' → Q (.bl ((([iOn r i (cp r j), iOn r i (cp r (j + 1))].any id) || ([iOn r j (cp r i), iOn r j (cp r (i + 1))].any id)) || (decide (iSign (iBeside r i (cp r j)) * iSign (iBeside r i (cp r (j + 1))) < 0) && decide (iSign (iBeside r j (cp r i)) * iSign (iBeside r j (cp r (i + 1))) < 0)))) H' := fun H' S' => by
        have k2 := k H' S'
        unfold iMeet at k2
        simp only [List.any_cons, List.any_nil, Bool.or_false, id]
        exact k2
      refine r_iteB (fun c => ?_) fun c => ?_
      · repeat walk_at "s"
        have k2 := k1 _ S07
        rw [c] at k2
        exact k2
      · rw [c, Bool.false_or] at k1
        have gL7 := S57.lst gL
        repeat walk_at "s"
        refine ⟨L, _, rfl, gL7, fun M2 hM2 => ?_⟩
        have S8 := same_new (o := .lst (cutV [V.ref E1, V.ref E2, V.ref E3, V.ref E4] (some 2) none)) hM2
        have gM2 : SqL K (upd H7 M2 (.lst (cutV [V.ref E1, V.ref E2, V.ref E3, V.ref E4] (some 2) none))) M2 [V.ref E3, V.ref E4] := SqL.of upd_same
        have S08 := S07.trans S8
        have S58 := S57.trans S8
        generalize upd H7 M2 (.lst (cutV [V.ref E1, V.ref E2, V.ref E3, V.ref E4] (some 2) none)) = H8 at *
        repeat walk_at "s"
        refine ⟨_, rfl, ⟨_, gM2⟩, fun D2 hD2 => ?_⟩
        refine lcListV (f := fun x => .bl (if x = .ref E3 then iOn r j (cp r i) else iOn r j (cp r (i + 1)))) (p := fun _ => true) hD2 gM2 (show 2 ≤ 1000000 by decide) (fun m x H9 G F hx S h1 h2 => ?_) (fun H9 S e' => ?_)
        · refine ⟨rfl, ?_⟩
          refine r_yes ?_
          refine r_itT rfl ?_
          have S09 := S08.trans S
          have S59 := S58.trans S
          have hR9 := hR.same S09
          repeat walk_at "s"
          rcases two hx with ⟨rfl, rfl⟩ | ⟨rfl, rfl⟩
          · refine ⟨a, E3, r, j, cp r i, rfl, hR9, S59.tup t3, (bc i).mono (by decide), fun H10 S10 => ?_⟩
            have h3 := h2 rfl H10 S10
            rw [if_pos rfl] at h3
            exact h3
          · refine ⟨a, E4, r, j, cp r (i + 1), rfl, hR9, S59.tup t4, (bc (i + 1)).mono (by decide), fun H10 S10 => ?_⟩
            have h3 := h2 rfl H10 S10
            rw [if_neg (fun q => d43 (V.ref.inj q))] at h3
            exact h3
        · have e2 : H9 D2 = some (.lst ([iOn r j (cp r i), iOn r j (cp r (i + 1))].map V.bl)) := by
            rw [e']
            show some (HO.lst [V.bl (if V.ref E3 = .ref E3 then _ else _), V.bl (if V.ref E4 = .ref E3 then _ else _)]) = _
            rw [if_pos rfl, if_neg (fun q => d43 (V.ref.inj q))]
            rfl
          have S09 := S08.trans S
          have S59 := S58.trans S
          repeat walk_at "s"
          refine ⟨_, _, rfl, SqL.of e2, ?_⟩
          repeat walk_at "s"
          refine r_iteB (fun c2 => ?_) fun c2 => ?_
          · repeat walk_at "s"
            have k2 := k1 _ S09
            rw [c2] at k2
            exact k2
          · rw [c2, Bool.false_or] at k1
            have gL9 := S59.lst gL
            have hR9 := hR.same S09
            repeat walk_at "s"
            refine r_ixL gL9 (by with_unfolding_all rfl) ?_
            repeat walk_at "s"
            refine ⟨a, E1, r, i, _, rfl, hR9, S59.tup t1, (bc j).mono (by decide), fun Ha Sa => ?_⟩
            have S0a := S09.trans Sa
            have S5a := S59.trans Sa
            have hRa := hR.same S0a
            repeat walk_at "s"
            refine ⟨_, rfl, ?_⟩
            repeat walk_at "s"
            refine r_ixL (S5a.lst gL) (by with_unfolding_all rfl) ?_
            repeat walk_at "s"
            refine ⟨a, E2, r, i, _, rfl, hRa, S5a.tup t2, (bc (j + 1)).mono (by decide), fun Hb Sb => ?_⟩
            have S0b := S0a.trans Sb
            have S5b := S5a.trans Sb
            have hRb := hR.same S0b
            repeat walk_at "s"
            refine ⟨_, rfl, ?_⟩
            have z1 := bd_sign (iBeside r i (cp r j))
            have z2 := bd_sign (iBeside r i (cp r (j + 1)))
            have z3 := bd_sign (iBeside r j (cp r i))
            have z4 := bd_sign (iBeside r j (cp r (i + 1)))
            generalize iSign (iBeside r i (cp r j)) = s1 at *
            generalize iSign (iBeside r i (cp r (j + 1))) = s2 at *
            repeat walk_at "s"
            refine r_ixL (S5b.lst gL) (by with_unfolding_all rfl) ?_
            repeat walk_at "s"
            refine ⟨a, E3, r, j, _, rfl, hRb, S5b.tup t3, (bc i).mono (by decide), fun Hc Sc => ?_⟩
            have S0c := S0b.trans Sc
            have S5c := S5b.trans Sc
            have hRc := hR.same S0c
            repeat walk_at "s"
            refine ⟨_, rfl, ?_⟩
            repeat walk_at "s"
            refine r_ixL (S5c.lst gL) (by with_unfolding_all rfl) ?_
            repeat walk_at "s"
            refine ⟨a, E4, r, j, _, rfl, hRc, S5c.tup t4, (bc (i + 1)).mono (by decide), fun Hd Sd => ?_⟩
            have S0d := S0c.trans Sd
            repeat walk_at "s"
            refine ⟨_, rfl, ?_⟩
            generalize iSign (iBeside r j (cp r i)) = s3 at *
            generalize iSign (iBeside r j (cp r (i + 1))) = s4 at *
            repeat walk_at "s"
            have k2 := k1 _ S0d
            refine r_iteB (fun c3 => ?_) fun c3 => ?_
            · rw [c3, Bool.true_and] at k2
              repeat walk_at "s"
              exact k2
            · rw [c3, Bool.false_and] at k2
              exact k2
end
end Rt
set_option Elab.async false
set_option linter.all false
set_option maxRecDepth 100000
set_option maxHeartbeats 4000000
namespace Rt
open PySem PySem.Spec PyProof.Rows L2
open C8 (Cal Met Mak pe_c pe_mk pe_mt pe_mt0 pe_gc)
local macro_rules | `(tactic| walk_at "bd") => `(tactic| first
  | assumption | exact Bd.sub (by walk_at "bd") (by walk_at "bd") | exact Bd.add (by walk_at "bd") (by walk_at "bd") | exact Bd.mul (by walk_at "bd") (by walk_at "bd") | exact Bd.neg (by walk_at "bd") | exact Bd.lit (by decide))
local macro_rules | `(tactic| walk_at "r") => `(tactic| with_reducible first
  | refine r_seq ?_ | refine r_ret ?_ | refine r_asg ?_ | refine r_drop ?_ | refine r_op ?_ | refine r_un ?_ | refine r_c ?_ | refine r_cons ?_ | refine r_nil ?_ | refine r_i0 ?_ | refine r_U ?_ | refine r_name ?_ | refine r_if ?_ | refine r_test ?_ | refine r_tB ?_ | refine r_bl ?_
  | refine r_call ?_ | refine r_meth ?_ | refine r_fld ?_ | refine r_tup ?_ | refine r_lst ?_ | refine r_cb ?_ | refine r_andV ?_ | refine r_orV ?_ | refine r_notV ?_ | refine r_and ?_ | refine r_or ?_ | refine r_not ?_ | refine r_eqI ?_ | refine r_neI ?_ | refine r_eqB ?_ | refine r_neB ?_
  | refine r_next ?_ | refine r_par ?_ | refine r_lc ?_ | refine r_yes ?_ | refine r_iList ?_ | refine r_iRng1 ?_ | refine r_lstRg ?_ | refine r_rg1 ?_ | refine r_gcons ?_ | refine r_gnil ?_ | refine r_var (by with_unfolding_all rfl) ?_)
local macro_rules | `(tactic| walk_at "s") => `(tactic| first
  | walk_at "r" | (with_reducible refine r_itT rfl ?_) | (with_reducible refine r_itF rfl ?_) | (with_reducible refine r_ixT (by assumption) (by with_unfolding_all rfl) ?_) | ((with_reducible refine r_iM ?_ ?_); exact bd_mul (by walk_at "bd") (by walk_at "bd") (by decide)) | (with_reducible refine r_gtup (by assumption) (by with_unfolding_all rfl) ?_) | refine RoomAt.meth (by assumption) ?_)
local macro_rules | `(tactic| walk_at "d") => `(tactic| try dsimp only [cxOf, Cx.nox, Cx.wish])

local macro_rules | `(tactic| walk_at "s") => `(tactic| with_reducible first
  | refine r_sl ?_ | refine r_po0 ?_ | refine r_po1 ?_ | refine r_for ?_ | refine r_bm ?_ | refine r_make ?_ | refine r_sfld ?_ | refine r_inl ?_)

/-! ### defs that may raise, packed -/
structure CalE (CX : CXT) (P : Program) (w : World) (K : PySem.W.Frag) (mg : Str → Option Value) (base : Heap) (k : Nat) (x : Str) (sp : Sp) : Prop where
  ex : ∃ (f : Addr) (fd : FuncData) (ps : List Str), FnOk P w K mg base CX k f fd ps sp ∧ mg x = some (.ref f) ∧ PySem.W.keepIn K (.ref f) = true ∧ Binds K fd ps []
structure MetE (CX : CXT) (P : Program) (w : World) (K : PySem.W.Frag) (mg : Str → Option Value) (base : Heap) (k : Nat) (C : Addr) (m : Str) (sp : Sp) : Prop where
  ex : ∃ (f : Addr) (fd : FuncData) (ps : List Str), Cls K C ∧ Meth K C m f ∧ FnOk P w K mg base CX k f fd ps sp ∧ Binds K fd ps []
section
variable {P : Program} {w : World} {K : PySem.W.Frag} {mg : Str → Option Value} {base : Heap} {CX : CXT}
theorem mkE {x nm : Str} {st : Stmt} {N ps : List Str} {k : Nat} {sp : Sp} (F : ∃ fd, Fun K nm nm st (He.ga K x) fd) (g : mg x = some (.ref (He.ga K x))) (S : FnScope N ps (defScope st))
    (hb : ∀ (kV doc pm : Value) (an : Option Addr) (cdv ct : Value) (us : List Value), us.length = ps.length → bindArgs (PySem.W.fnOf nm nm (defArgs st) (defBody st) (defScope st) .none kV doc pm an cdv ct) ⟨us, []⟩ = pure (ps.zip us))
    (len : ∀ vs H Q E, sp vs H Q E → vs.length = ps.length)
    (hbody : ∀ (f : Addr) (cdv : Value) (A : Around) (outer : List Env) (s : Shared) (H : Hp) (vs : List V) (Q : VK) (E : XK), L2.Room k (A.deeper (envOfC nm (defScope st) s.heap.objs.size f cdv)) → sp vs H Q E →
      ∃ t, PSs (cxOf CX P w K mg base N nm (defScope st) f cdv A outer s H E) (defBody st) t ∧ t { nx := fun _ H' => Q .non H', rt := Q } (start N vs) H) : CalE CX P w K mg base (k + 1) x sp := by
  obtain ⟨fd, F⟩ := F
  have b := F.binds hb
  have kp := F.kp
  obtain ⟨oc, od, kV, doc, pm, an, cdv, ct, osl, rfl, lk, hcd⟩ := F.ex
  exact ⟨He.ga K x, _, ps, fn_of lk hcd S len (hbody _ cdv), g, kp, b⟩
theorem mkME {c m q : Str} {st : Stmt} {N ps : List Str} {k : Nat} {sp : Sp} (F : ∃ fd, Fun K m q st (He.ma K (He.ga K c) m) fd) (kc : Cls K (He.ga K c)) (me : Meth K (He.ga K c) m (He.ma K (He.ga K c) m)) (S : FnScope N ps (defScope st))
    (hb : ∀ (kV doc pm : Value) (an : Option Addr) (cdv ct : Value) (us : List Value), us.length = ps.length → bindArgs (PySem.W.fnOf m q (defArgs st) (defBody st) (defScope st) .none kV doc pm an cdv ct) ⟨us, []⟩ = pure (ps.zip us))
    (len : ∀ vs H Q E, sp vs H Q E → vs.length = ps.length)
    (hbody : ∀ (f : Addr) (cdv : Value) (A : Around) (outer : List Env) (s : Shared) (H : Hp) (vs : List V) (Q : VK) (E : XK), L2.Room k (A.deeper (envOfC q (defScope st) s.heap.objs.size f cdv)) → sp vs H Q E →
      ∃ t, PSs (cxOf CX P w K mg base N q (defScope st) f cdv A outer s H E) (defBody st) t ∧ t { nx := fun _ H' => Q .non H', rt := Q } (start N vs) H) : MetE CX P w K mg base (k + 1) (He.ga K c) m sp := by
  obtain ⟨fd, F⟩ := F
  have b := F.binds hb
  obtain ⟨oc, od, kV, doc, pm, an, cdv, ct, osl, rfl, lk, hcd⟩ := F.ex
  exact ⟨He.ma K (He.ga K c) m, _, ps, kc, me, fn_of lk hcd S len (hbody _ cdv), b⟩
end
section
variable {X : Cx} {CX : CXT} {k j : Nat} {x m : Str} {C : Addr} {sp : Sp} {p pos apos : Pos} {e o : Expr} {es : List Expr} {ta : TE} {t : TA} {E : L2.St → XK}
theorem pe_cE (c : CalE CX X.prog X.w X.K X.mg X.base k x sp) (hr : L2.Room j X.A) (hk : k ≤ j) (hg : Gl X x) (hx : ∀ σ, PassesAt CX X σ (E σ)) (ha : PA X (e :: es) t)
    (hdb : (x == ("__debug__" : Str)) = false := by decide) (he : starEach (e :: es) X.env = (false, eval e X.env) :: starEach es X.env := by rfl) (hpl : (backTo pos (starEach es X.env)).any (·.1) = false := by rfl) :
    PE X (.Call (.Name x p) (e :: es) [] pos) (tCallS sp E t) := by
  obtain ⟨f, fd, ps, F, hm, kp, b⟩ := c.ex
  exact pe_callS F (hr.mono hk) hg hm kp b hx ha hdb he hpl
/-- o.m(e, ..), where m may raise -/
def tMethE (C : Addr) (m : Str) (sp : Sp) (E : L2.St → XK) (ta : TE) (t : TA) : TE := fun σ H Q => ta σ H fun x H1 => ∃ a dx fs, x = .ref a ∧ H1 a = some (.ins C dx fs) ∧ fs.lookup m = none ∧ t σ H1 fun vs H2 => sp (x :: vs) H2 Q (E σ)
theorem pe_mE {pl : Sem Bool} (c : MetE CX X.prog X.w X.K X.mg X.base k C m sp) (hr : L2.Room j X.A) (hk : k ≤ j) (hx : ∀ σ, PassesAt CX X σ (E σ)) (he : PE X o ta) (ha : PA X (e :: es) t)
    (hst : starEach (e :: es) X.env = (false, eval e X.env) :: starEach es X.env := by rfl) (hpl : (backTo pos (starEach es X.env)).any (·.1) = false := by rfl)
    (ht : eval (.Call (.Attribute o m apos) (e :: es) [] pos) X.env = (do
      let ov ← eval o X.env
      standAt apos.atName
      let (f, first) ← holding [ov] (getMethod ov m pl)
      callWith pos f first (backTo pos (starEach (e :: es) X.env)) (backToKw pos (keywordEach [] X.env))) := by rfl) :
    PE X (.Call (.Attribute o m apos) (e :: es) [] pos) (tMethE C m sp E ta t) := by
  obtain ⟨f, fd, ps, kc, hm, F, hb⟩ := c.ex
  refine ⟨fun pins s σ H Q I h => ?_⟩
  refine PySem.W.methodCall_KW (pl := pl) (thn (he.run pins s σ H _ I h) fun u s1 ⟨x, H1, I1, rx, a, dx, fs, ex, ea, l, q⟩ => ?_) ht
  subst ex
  obtain rfl : u = Value.ref a := rx
  refine getmeth_ok I1 ea kc hm l ?_
  refine PySem.W.callWith_K (first := [.ref a]) (h₀ := X.base) I.ok.mod.kin hm.kp (thn (ha.run pos pins s1 σ H1 _ I1 q) fun us s2 ⟨vs, H2, I2, r, q2⟩ => ⟨I2.kIn, ?_⟩) hst hpl
  exact run_fnS (us := .ref a :: us) (vs := .ref a :: vs) F (hr.mono hk) hb (hx σ) I2 (.cons rfl r) q2
theorem r_callS {σ : L2.St} {H : Hp} {Q : VK} (h : t σ H fun vs H1 => sp vs H1 Q (E σ)) : tCallS sp E t σ H Q := h
theorem r_methE {σ : L2.St} {H : Hp} {Q : VK} (h : ta σ H fun x H1 => ∃ a dx fs, x = .ref a ∧ H1 a = some (.ins C dx fs) ∧ fs.lookup m = none ∧ t σ H1 fun vs H2 => sp (x :: vs) H2 Q (E σ)) : tMethE C m sp E ta t σ H Q := h
/-- C(e, ..) where nothing is handled: its context is None -/
theorem pmkN_oex {fI : Addr} {fd : FuncData} {ps : List Str} (T : OexC X.K C) (iC : PySem.W.findIn X.K (.ref C) "__init__" = some (some (.ref fI)) ∧ PySem.W.typeIn X.K (.ref fI) = some (.type "function"))
    (F1 : FnOk X.prog X.w X.K X.mg X.base CX0 k fI fd ps sp) (hr : L2.Room (k + 1) X.A) (hb : Binds X.K fd ps []) (hg : Gl X x) (hm : X.mg x = some (.ref C)) (ha : PA X (e :: es) t)
    (hdb : (x == ("__debug__" : Str)) = false := by decide) (he : starEach (e :: es) X.env = (false, eval e X.env) :: starEach es X.env := by rfl) (hpl : (backTo pos (starEach es X.env)).any (·.1) = false := by rfl) :
    L2N.PMk X (.Call (.Name x p) (e :: es) [] pos) (tMkO C sp [] t) := by
  intro pins s σ H Q I h
  obtain ⟨nm, q, N, bs, bm, sn, sub, ab, col, dd, k0, k1, k2, k3, k5, hC, hbm⟩ := T.cls
  refine wpAny_Call_Name_kw (ld_glob I hg hm ?_ hdb)
  refine PySem.W.callWith_K (h₀ := X.base) I.ok.mod.kin T.kC (thn (ha.run pos pins s σ H _ I h) fun us s1 ⟨vs, H1, I1, r1, hz, q1⟩ => ⟨I1.kIn, ?_⟩) he hpl
  show wpAny _ _ (call (.ref C) us) _ _ _
  obtain ⟨hp, g, dr, tk, os⟩ := s1
  have hsz : hp.objs.size ≤ hp.objs.size + 1 := Nat.le_succ _
  have hn : H1 (hp.objs.size + 1) = none := I1.hok.fresh hsz
  have hq := q1 (hp.objs.size + 1) hn
  rw [List.append_nil] at hq
  have kk : ∀ b o, hp.get? b = some o → ((hp.push (PySem.W.kdv_tup us)).push (PySem.HandSPX.excO C hp.objs.size)).get? b = some o := fun b o e => Heap.get?_push_of_some _ (Heap.get?_push_of_some _ e)
  have hget : ((hp.push (PySem.W.kdv_tup us)).push (PySem.HandSPX.excO C hp.objs.size)).get? (hp.objs.size + 1) = some (PySem.HandSPX.excO C hp.objs.size) := by heap_get
  have I2 : Inv X pins σ (upd H1 (hp.objs.size + 1) (exo (hp.objs.size + 1) C none)) ⟨(hp.push (PySem.W.kdv_tup us)).push (PySem.HandSPX.excO C hp.objs.size), g, dr, tk, os⟩ :=
    I1.laid (t' := tk) (a := hp.objs.size + 1) (o := exo (hp.objs.size + 1) C none) (h' := (hp.push (PySem.W.kdv_tup us)).push (PySem.HandSPX.excO C hp.objs.size)) kk hsz (exo_ok hget)
  have r2 : Vals (V.ref (hp.objs.size + 1) :: vs) (Value.ref (hp.objs.size + 1) :: us) := .cons rfl r1
  have hl : (Value.ref (hp.objs.size + 1) :: us ++ []).length = ps.length := by
    have e := r2.length
    rw [F1.len _ _ _ _ hq] at e
    rw [List.append_nil]
    exact e.symm
  have hus : us.length ≤ sizeLine := by
    rw [← Paired.length r1, sizeLine_eq]
    omega
  have b2 := hb _ (Value.ref (hp.objs.size + 1) :: us) I2.kIn hl
  rw [List.append_nil] at b2
  refine wpAny_call (PySem.HandSPX.call_own F.excBase_ValueError (fun Y => PySem.HandSPX.refsVE_contains Y bm hbm) (I1.kIn _ _ hC) (PySem.W.looks_findIn I1.kIn iC.1) (fun self => PySem.W.bind_fn I1.kIn self iC.2) hus
    (codeAny_mono (F1.run _ X.stack _ _ ⟨Value.ref (hp.objs.size + 1) :: us, []⟩ (Value.ref (hp.objs.size + 1) :: us) _ _ (fun _ _ _ => False) (hr.make C us []) (I2.env0.make C us []) b2 r2 hq) fun r s' hq' => ?_))
  cases r with
  | error er => exact False.elim hq'
  | ok fl =>
    cases fl with
    | ret u =>
      obtain ⟨v, H2, os2, bare2, un2, hok2, rv, ev, d, fs, ea, ed, hd1, q2⟩ := hq'
      subst ev
      obtain ⟨h2, g2, d2, t2, os'⟩ := s'
      obtain ⟨t0, G, J, kG, ge, hoe, na⟩ := mk_end0 (d2 := d2) (t2 := t2) I1 hsz kk un2 hok2 os2 bare2 ea ed hd1
      exact ⟨rv, hp.objs.size + 1, _, _, ⟨G, g2, d2, t2, os'⟩, _, .ref C, some d, rfl, J, kG, ge, hoe, ⟨rfl, rfl, fun vs hv => by cases hv; rfl⟩, rfl, rfl, na, rfl, bare2, raises_own T.exC T.tyC, q2⟩
    | next => exact False.elim hq'
    | brk => exact False.elim hq'
    | cont => exact False.elim hq'
end
/-! ### the two errors -/
theorem heap_back {H : Hp} {a d : Addr} {o1 o2 o3 o4 : HO} (ha : H a = none) (hda : d ≠ a) : upd (del (upd (upd (upd H a o1) d o2) a o3) a) d o4 = upd H d o4 := by
  funext b
  by_cases h1 : b = d
  · rw [h1, upd_same, upd_same]
  · rw [upd_ne h1, upd_ne h1]
    by_cases h2 : b = a
    · rw [h2, del_same, ha]
    · rw [del_ne h2, upd_ne h2, upd_ne h1, upd_ne h2]
theorem heap_back2 {H : Hp} {a d : Addr} {o1 o2 o3 o4 o5 : HO} (ha : H a = none) (hda : d ≠ a) : upd (del (upd (upd (upd (upd H a o1) d o2) a o3) d o5) a) d o4 = upd H d o4 := by
  funext b
  by_cases h1 : b = d
  · rw [h1, upd_same, upd_same]
  · rw [upd_ne h1, upd_ne h1]
    by_cases h2 : b = a
    · rw [h2, del_same, ha]
    · rw [del_ne h2, upd_ne h1, upd_ne h2, upd_ne h1, upd_ne h2]
def fauF (x y : V) : List (Str × V) := [("wall", y), ("rule", x)]
def refF (x : V) : List (Str × V) := [("numbers", x)]
section
variable {P : Program} {w : World} {K : PySem.W.Frag} {mg : Str → Option Value} {base : Heap}
def spFaultI (C : Addr) : Sp := fun vs H Q _ => ∃ (a : Addr) (x y : V), vs = [.ref a, x, y] ∧ H a = some (exo a C none) ∧ ∀ dx, H dx = none → dx ≠ a → Q .non (upd (upd (upd H dx (exd dx [("rule", x)])) a (exo a C (some dx))) dx (exd dx (fauF x y)))
def spRefI (C : Addr) : Sp := fun vs H Q _ => ∃ (a : Addr) (x : V), vs = [.ref a, x] ∧ H a = some (exo a C none) ∧ ∀ dx, H dx = none → dx ≠ a → Q .non (upd (upd H dx (exd dx (refF x))) a (exo a C (some dx)))
theorem fault_init (T : Tx K mg base) : ∃ fd, FnOk P w K mg base CX0 1 (He.ma K (He.ga K "Fault") "__init__") fd ["self", "rule", "wall"] (spFaultI (He.ga K "Fault")) ∧ Binds K fd ["self", "rule", "wall"] [] := by
  obtain ⟨fd, F⟩ := T.f_Fault_init
  refine ⟨fd, F.ok sc_Fault_init (fun vs H Q E h => ?_) (fun cdv A outer s H vs Q E hr h => ⟨_, pss_cons (ps_ost (pv 0) (pv 1)) (pss_one (ps_ost (pv 0) (pv 2))), ?_⟩), F.binds fun _ _ _ _ _ _ us hl => match us, hl with | [_, _, _], _ => rfl⟩
  · obtain ⟨a, x, y, rfl, _⟩ := h
    rfl
  · obtain ⟨a, x, y, rfl, ha, k⟩ := h
    refine ⟨_, by with_unfolding_all rfl, _, by with_unfolding_all rfl, a, He.ga K "Fault", rfl, T.oF, T.a_Fault_rule, .inl ⟨ha, fun dx hd ne => ?_⟩⟩
    refine ⟨_, by with_unfolding_all rfl, _, by with_unfolding_all rfl, a, He.ga K "Fault", rfl, T.oF, T.a_Fault_wall, .inr ⟨dx, [("rule", x)], upd_same, ?_, (by show 1 ≤ 900; decide), ?_⟩⟩
    · rw [upd_ne ne]
      exact upd_same
    · exact k dx hd ne
theorem ref_init (T : Tx K mg base) : ∃ fd, FnOk P w K mg base CX0 1 (He.ma K (He.ga K "Refused") "__init__") fd ["self", "numbers"] (spRefI (He.ga K "Refused")) ∧ Binds K fd ["self", "numbers"] [] := by
  obtain ⟨fd, F⟩ := T.f_Refused_init
  refine ⟨fd, F.ok sc_Refused_init (fun vs H Q E h => ?_) (fun cdv A outer s H vs Q E hr h => ⟨_, pss_one (ps_ost (pv 0) (pv 1)), ?_⟩), F.binds fun _ _ _ _ _ _ us hl => match us, hl with | [_, _], _ => rfl⟩
  · obtain ⟨a, x, rfl, _⟩ := h
    rfl
  · obtain ⟨a, x, rfl, ha, k⟩ := h
    refine ⟨_, by with_unfolding_all rfl, _, by with_unfolding_all rfl, a, He.ga K "Refused", rfl, T.oR, T.a_Refused_numbers, .inl ⟨ha, fun dx hd ne => ?_⟩⟩
    exact k dx hd ne
theorem r_mkO {C : Addr} {sp : Sp} {dvs : List V} {ta : TA} {σ : L2.St} {H : Hp} {Q : XK} (h : ta σ H fun vs H1 => vs.length ≤ 1000 ∧ ∀ a, H1 a = none → sp (.ref a :: (vs ++ dvs)) (upd H1 a (exo a C none))
    (fun v H2 => v = .non ∧ ∃ (d : Addr) (fs : List (Str × V)), H2 a = some (exo a C (some d)) ∧ H2 d = some (exd d fs) ∧ H1 d = none ∧ Q (.ref C) (some d) (upd (del H2 a) d (.xd fs))) (fun _ _ _ => False)) : tMkO C sp dvs ta σ H Q := h
theorem post_fault {C : Addr} {x y : V} {H1 : Hp} {Q : XK} (h : ∀ d, H1 d = none → Q (.ref C) (some d) (upd H1 d (.xd (fauF x y)))) : [x, y].length ≤ 1000 ∧ ∀ a, H1 a = none → spFaultI C (.ref a :: ([x, y] ++ [])) (upd H1 a (exo a C none))
    (fun v H2 => v = .non ∧ ∃ (d : Addr) (fs : List (Str × V)), H2 a = some (exo a C (some d)) ∧ H2 d = some (exd d fs) ∧ H1 d = none ∧ Q (.ref C) (some d) (upd (del H2 a) d (.xd fs))) (fun _ _ _ => False) := by
  refine ⟨(by show 2 ≤ 1000; decide), fun a ha => ⟨a, x, y, rfl, upd_same, fun dx hd ne => ⟨rfl, dx, fauF x y, ?_, upd_same, ?_, ?_⟩⟩⟩
  · rw [upd_ne (Ne.symm ne)]
    exact upd_same
  · rw [upd_ne ne] at hd
    exact hd
  · rw [heap_back2 ha ne]
    rw [upd_ne ne] at hd
    exact h dx hd
theorem post_ref {C : Addr} {x : V} {H1 : Hp} {Q : XK} (h : ∀ d, H1 d = none → Q (.ref C) (some d) (upd H1 d (.xd (refF x)))) : [x].length ≤ 1000 ∧ ∀ a, H1 a = none → spRefI C (.ref a :: ([x] ++ [])) (upd H1 a (exo a C none))
    (fun v H2 => v = .non ∧ ∃ (d : Addr) (fs : List (Str × V)), H2 a = some (exo a C (some d)) ∧ H2 d = some (exd d fs) ∧ H1 d = none ∧ Q (.ref C) (some d) (upd (del H2 a) d (.xd fs))) (fun _ _ _ => False) := by
  refine ⟨(by show 1 ≤ 1000; decide), fun a ha => ⟨a, x, rfl, upd_same, fun dx hd ne => ⟨rfl, dx, refF x, upd_same, ?_, ?_, ?_⟩⟩⟩
  · rw [upd_ne ne]
    exact upd_same
  · rw [upd_ne ne] at hd
    exact hd
  · rw [heap_back ha ne]
    rw [upd_ne ne] at hd
    exact h dx hd
/-- must(so, rule, wall): it holds, or a fault is let out, its numbers in its own new dict -/
def spMust (C : Addr) : Sp := fun vs H Q E => ∃ (so : Bool) (x y : V), vs = [.bl so, x, y] ∧ (so = true → Q .non H) ∧ (so = false → ∀ d, H d = none → E (.ref C) (some d) (upd H d (.xd (fauF x y))))
theorem ok_must_rooms (T : Tx K mg base) : CalE (L2N.CX P w) P w K mg base 3 "must_rooms" (spMust (He.ga K "Fault")) := by
  obtain ⟨fd, F, B⟩ := fault_init (P := P) (w := w) T
  refine mkE T.f_must_rooms T.g_must_rooms sc_must_rooms (fun _ _ _ _ _ _ us hl => match us, hl with | [_, _, _], _ => rfl) (fun vs H Q E h => ?_) (fun f cdv A outer s H vs Q E hr h => ⟨_, pss_one (ps_if (pt_not (pt_val (pv 0))) (pss_one (L2N.ps_raise rfl (L2N.takes_of rfl rfl rfl rfl) (pmkN_oex T.oF T.iF F (hr.mono (by decide)) B rfl T.g_Fault (pa_cons (pv 1) (pa_cons (pv 2) pa_nil))))) pss_nil), ?_⟩)
  · obtain ⟨so, x, y, rfl, _⟩ := h
    rfl
  · obtain ⟨so, x, y, rfl, h1, h2⟩ := h
    walk_at "d"
    repeat walk_at "s"
    cases so with
    | true =>
      refine r_itF rfl ?_
      exact h1 rfl
    | false =>
      refine r_itT rfl ?_
      refine r_mkO ?_
      repeat walk_at "s"
      exact post_fault (h2 rfl)
/-- must(so, numbers): it holds, or a refusal is let out -/
def spMustT (C : Addr) : Sp := fun vs H Q E => ∃ (so : Bool) (x : V), vs = [.bl so, x] ∧ (so = true → Q .non H) ∧ (so = false → ∀ d, H d = none → E (.ref C) (some d) (upd H d (.xd (refF x))))
theorem _root_.L2N.Takes.of2 {X : Cx} {W : WX} (t : L2.Takes X W) : L2N.Takes X W := fun u s' x => by
  obtain ⟨a, B, sI, pins, σ, H, cls, d, e, I, nb, up, sky, na, os, ag, h⟩ := x
  refine t u s' ⟨a, B, sI, pins, σ, H, cls, d, e, I, nb, up, ?_, na, os, ag, h⟩
  rcases sky with ⟨h1, h2, h3, oe, vs, h4, h5, h6⟩ | fl | hh
  · exact .inl ⟨h1, h2, h3, oe, vs, h4, h5.zc, h6⟩
  · exact .inr (.inl (L2H.flyingZ_imp (fun o z => z.zc) fl))
  · exact .inr (.inr ⟨hh.1, hh.2.1, hh.2.2.1, L2H.tracedZ_imp (fun o z => z.zc) hh.2.2.2⟩)
theorem ok_must_taps (T : Tx K mg base) : CalE (L2.CX P w) P w K mg base 3 "must_taps" (spMustT (He.ga K "Refused")) := by
  obtain ⟨fd, F, B⟩ := ref_init (P := P) (w := w) T
  refine mkE T.f_must_taps T.g_must_taps sc_must_taps (fun _ _ _ _ _ _ us hl => match us, hl with | [_, _], _ => rfl) (fun vs H Q E h => ?_) (fun f cdv A outer s H vs Q E hr h => ⟨_, pss_one (ps_if (pt_not (pt_val (pv 0))) (pss_one (L2N.ps_raise rfl (L2N.Takes.of2 (L2.takes_of rfl rfl rfl rfl)) (pmkN_oex T.oR T.iR F (hr.mono (by decide)) B rfl T.g_Refused (pa_cons (pv 1) pa_nil)))) pss_nil), ?_⟩)
  · obtain ⟨so, x, rfl, _⟩ := h
    rfl
  · obtain ⟨so, x, rfl, h1, h2⟩ := h
    walk_at "d"
    repeat walk_at "s"
    cases so with
    | true =>
      refine r_itF rfl ?_
      exact h1 rfl
    | false =>
      refine r_itT rfl ?_
      refine r_mkO ?_
      repeat walk_at "s"
      exact post_ref (h2 rfl)
end
end Rt
set_option Elab.async false
set_option linter.all false
set_option maxRecDepth 100000
set_option maxHeartbeats 4000000
namespace Rt
open PySem PySem.Spec PyProof.Rows L2
open C8 (Cal Met Mak pe_c pe_mk pe_mt pe_mt0 pe_gc)
local macro_rules | `(tactic| walk_at "bd") => `(tactic| first
  | assumption | exact Bd.sub (by walk_at "bd") (by walk_at "bd") | exact Bd.add (by walk_at "bd") (by walk_at "bd") | exact Bd.mul (by walk_at "bd") (by walk_at "bd") | exact Bd.neg (by walk_at "bd") | exact Bd.lit (by decide))
local macro_rules | `(tactic| walk_at "r") => `(tactic| with_reducible first
  | refine r_seq ?_ | refine r_ret ?_ | refine r_asg ?_ | refine r_drop ?_ | refine r_op ?_ | refine r_un ?_ | refine r_c ?_ | refine r_cons ?_ | refine r_nil ?_ | refine r_i0 ?_ | refine r_U ?_ | refine r_name ?_ | refine r_if ?_ | refine r_test ?_ | refine r_tB ?_ | refine r_bl ?_
  | refine r_call ?_ | refine r_meth ?_ | refine r_fld ?_ | refine r_tup ?_ | refine r_lst ?_ | refine r_cb ?_ | refine r_andV ?_ | refine r_orV ?_ | refine r_notV ?_ | refine r_and ?_ | refine r_or ?_ | refine r_not ?_ | refine r_eqI ?_ | refine r_neI ?_ | refine r_eqB ?_ | refine r_neB ?_
  | refine r_next ?_ | refine r_par ?_ | refine r_lc ?_ | refine r_yes ?_ | refine r_iList ?_ | refine r_iRng1 ?_ | refine r_lstRg ?_ | refine r_rg1 ?_ | refine r_gcons ?_ | refine r_gnil ?_ | refine r_var (by with_unfolding_all rfl) ?_)
local macro_rules | `(tactic| walk_at "s") => `(tactic| first
  | walk_at "r" | (with_reducible refine r_itT rfl ?_) | (with_reducible refine r_itF rfl ?_) | (with_reducible refine r_ixT (by assumption) (by with_unfolding_all rfl) ?_) | ((with_reducible refine r_iM ?_ ?_); exact bd_mul (by walk_at "bd") (by walk_at "bd") (by decide)) | (with_reducible refine r_gtup (by assumption) (by with_unfolding_all rfl) ?_) | refine RoomAt.meth (by assumption) ?_)
local macro_rules | `(tactic| walk_at "d") => `(tactic| try dsimp only [cxOf, Cx.nox, Cx.wish])

local macro_rules | `(tactic| walk_at "s") => `(tactic| with_reducible first
  | refine r_sl ?_ | refine r_po0 ?_ | refine r_po1 ?_ | refine r_for ?_ | refine r_bm ?_ | refine r_make ?_ | refine r_sfld ?_ | refine r_inl ?_)

def rgC (lo c : Int) (n : Nat) : List V := (List.range n).map fun i => V.int (lo + (i : Nat) * c)
theorem rgC_at {lo c : Int} {n i : Nat} (h : i < n) : (rgC lo c n)[i]? = some (.int (lo + (i : Nat) * c)) := by
  unfold rgC
  rw [List.getElem?_map, List.getElem?_range h]
  rfl
section
variable {K : PySem.W.Frag} {D : Addr} {g : TG} {tt : TT} {te : TE} {vs : List Nat} {σ : L2.St} {H1 : Hp} {Qd : Hp → Prop}
/-- a comprehension over a range with a step -/
theorem lcRangeC {lo c : Int} {n : Nat} {R : V → V → Hp → Prop} (stab : ∀ x y H H', Same H H' → R x y H → R x y H') (stabD : ∀ x y H D l l', H D = some (.lst l) → R x y H → R x y (upd H D (.lst l'))) (hn : H1 D = none) (hz : n ≤ 1000000)
    (hs : ∀ (i : Nat) H (G : V → Hp → Prop) (F : Hp → Prop), i < n → Same H1 H → (∀ y H', Same H H' → R (.int (lo + (i : Nat) * c)) y H' → G y H') →
      g (.int (lo + (i : Nat) * c)) (wipe σ vs) H fun σ2 H2 => wipe σ2 vs = wipe σ vs ∧ tt σ2 H2 fun b H3 => if b = true then te σ2 H3 G else F H3)
    (hd : ∀ H acc, Same H1 H → H D = some (.lst acc) → Paired (fun x y => R x y H) (rgC lo c n) acc → Qd H) :
    ∃ W : Nat → Nat → Hp → Prop, (∃ m, W 0 m (upd H1 D (.lst []))) ∧ ∀ i m H, W i m H →
      ((Itc lo c n).stop i H ∧ Qd H) ∨ ((Itc lo c n).go i H ∧ ∃ Nx : Hp → Prop, (∀ H', Nx H' → ∃ m', m' < m ∧ W (i + 1) m' H') ∧ ∀ x H', (Itc lo c n).yld i H x H' → g x (wipe σ vs) H' fun σ2 H2 => wipe σ2 vs = wipe σ vs ∧ tt σ2 H2 fun b H3 =>
        if b = true then te σ2 H3 fun y H4 => ∃ acc, H4 D = some (.lst acc) ∧ acc.length < sizeLine ∧ Nx (upd H4 D (.lst (acc ++ [y]))) else Nx H3) := by
  have hlen : (rgC lo c n).length = n := by unfold rgC; simp
  have all : (rgC lo c n).filter (fun _ => true) = rgC lo c n := List.filter_eq_self.mpr fun _ _ => rfl
  refine ⟨fun i m H => m = n - i ∧ i ≤ n ∧ Made R (fun _ => true) H1 D (rgC lo c n) i H, ⟨n, rfl, Nat.zero_le _, same_but hn (Same.refl H1), [], upd_same, .nil⟩, ?_⟩
  rintro i m H ⟨rfl, hi, M⟩
  by_cases hlt : i < n
  · refine .inr ⟨hlt, fun H' => Made R (fun _ => true) H1 D (rgC lo c n) (i + 1) H', fun H' h => ⟨n - (i + 1), by omega, rfl, hlt, h⟩, fun x H' y => ?_⟩
    obtain ⟨e1, e2⟩ := y
    subst e1 e2
    exact hs i _ _ _ hlt M.1 fun y H' s hy => made_yes stab stabD hn (rgC_at hlt) (by rw [hlen]; exact hz) M rfl s hy
  · have e : i = n := by omega
    subst e
    refine .inl ⟨Nat.le_refl _, ?_⟩
    obtain ⟨s, acc, e, r⟩ := M
    rw [show (rgC lo c i).take i = rgC lo c i from List.take_of_length_le (by omega), all] at r
    exact hd H acc s e r
end
theorem paired_at {α β : Type} {F : α → β → Prop} : ∀ {l : List α} {m : List β}, Paired F l m → ∀ (j : Nat) (a : α), l[j]? = some a → ∃ b, m[j]? = some b ∧ F a b
  | _, _, .nil, j, a, h => by simp at h
  | _, _, .cons r t, 0, a, h => by
    cases h
    exact ⟨_, rfl, r⟩
  | _, _, .cons r t, j + 1, a, h => paired_at t j a h
theorem refs_back {acc : List V} {f : V → Addr} (h : ∀ y ∈ acc, y = .ref (f y)) : acc = (acc.map f).map V.ref := by
  induction acc with
  | nil => rfl
  | cons y r ih =>
    rw [List.map_cons, List.map_cons, ← h y List.mem_cons_self, ← ih fun z hz => h z (List.mem_cons_of_mem _ hz)]
theorem paired_to {α β : Type} {F : α → β → Prop} : ∀ {l : List α} {m : List β}, Paired F l m → ∀ (b : β), b ∈ m → ∃ a, F a b
  | _, _, .nil, b, h => by simp at h
  | _, _, .cons r t, b, h => by
    rcases List.mem_cons.mp h with e | h
    · rw [e]
      exact ⟨_, r⟩
    · exact paired_to t b h
theorem paired_map {α β : Type} {f : α → β} : ∀ {l : List α} {m : List β}, Paired (fun a b => b = f a) l m → m = l.map f
  | _, _, .nil => rfl
  | _, _, .cons r t => by rw [List.map_cons, r, paired_map t]
def room2 (h : Int) (ac : Addr) : List (Str × V) := [("height", V.int h), ("corners", V.ref ac)]
def backA : V → Addr
  | .ref p => p
  | _ => 0
theorem at_told {told : List Int} {z : Int} {i : Nat} (e : z = (i : Int)) (h : i < told.length) : atI (told.map V.int) z = some (.int (told.getD i 0)) := by
  refine at_of e ?_
  rw [List.getElem?_map, List.getD_eq_getElem?_getD, List.getElem?_eq_getElem h]
  rfl
theorem lst_insP {K : PySem.W.Frag} {H : Hp} {l x C dx : Addr} {fs : List (Str × V)} {o : HO} {xs : List V} (hx : H x = some (.ins C dx fs)) (h : SqL K H l xs) : SqL K (upd H x o) l xs := by
  rcases h with (h | ⟨u, h⟩) | h
  · exact .inl (.inl ((upd_ne fun q => by rw [q, hx] at h; cases h).trans h))
  · exact .inl (.inr ⟨u, (upd_ne fun q => by rw [q, hx] at h; cases h).trans h⟩)
  · exact .inr h
theorem tup_insP {K : PySem.W.Frag} {H : Hp} {l x C dx : Addr} {fs : List (Str × V)} {o : HO} {xs : List V} (hx : H x = some (.ins C dx fs)) (h : SqT K H l xs) : SqT K (upd H x o) l xs := by
  rcases h with (h | ⟨u, h⟩) | h
  · exact .inl (.inl ((upd_ne fun q => by rw [q, hx] at h; cases h).trans h))
  · exact .inl (.inr ⟨u, (upd_ne fun q => by rw [q, hx] at h; cases h).trans h⟩)
  · exact .inr h
theorem r_iRng3 {ta : TA} {σ : L2.St} {H : Hp} {R : It → Hp → Prop} (h : ta σ H fun vs H1 => ∃ (i j c : Int) (n : Nat), vs = [.int i, .int j, .int c] ∧ RgC i j c n ∧ R (Itc i c n) H1) : iRng3 ta σ H R := h
theorem rgc3 {lo : Nat} {n : Nat} (h : n ≤ 100000) (hl : lo ≤ 1000) : RgC (lo : Int) ((lo + 3 * n : Nat) : Int) 3 n := by
  refine ⟨by decide, by decide, ?_, ?_⟩
  · have e : Builtin.Range.rangeSize (lo : Int) ((lo + 3 * n : Nat) : Int) 3 = n := by
      unfold Builtin.Range.rangeSize
      rw [if_pos (by decide)]
      split <;> omega
    unfold Builtin.Range.small
    rw [e]
    have fit : ∀ z : Int, -(2 ^ 62) ≤ z → z < 2 ^ 62 → Builtin.Range.rangeFitsLong z = true := fun z h1 h2 => by
      unfold Builtin.Range.rangeFitsLong
      rw [Bool.and_eq_true]
      exact ⟨decide_eq_true (by omega), decide_eq_true (by omega)⟩
    rw [fit _ (by omega) (by omega), fit _ (by omega) (by omega), fit 3 (by omega) (by omega), fit _ (by omega) (by omega), if_pos (show (3 : Int) > 0 by decide), fit _ (by omega) (by omega), Bool.or_true]
    rfl
  · unfold Builtin.Range.rangeSize
    rw [if_pos (by decide)]
    split <;> omega
section
variable {P : Program} {w : World} {K : PySem.W.Frag} {mg : Str → Option Value} {base : Heap}
def spRoomI (K : PySem.W.Frag) : Sp := fun vs H Q _ => ∃ (x dx l : Addr) (told : List Int) (n : Nat), vs = [.ref x, .ref l] ∧ H x = some (.ins (He.ga K "Room") dx []) ∧ SqL K H l (told.map V.int) ∧ told.length = 3 + 3 * n ∧ n ≤ 64 ∧ RW (roomT told n) ∧
  0 ≤ told.getD 1 0 ∧ 0 ≤ told.getD 2 0 ∧ (∀ i, i < n → 0 ≤ told.getD (5 + 3 * i) 0) ∧ ∀ H', (∀ b u, b ≠ x → H b = some u → H' b = some u) → RoomAt K H' x (roomT told n) → Q .non H'
theorem ok_Room_init (T : Tx K mg base) : Mak P w K mg base 1 "Room" (He.ga K "Room") (spRoomI K) [] := by
  refine mkK T.f_Room_init T.m_Room T.g_Room sc_Room_init (fun _ _ _ _ _ _ us hl => match us, hl with | [_, _], _ => rfl) (fun vs H Q E h => ?_) (fun f cdv A outer s H vs Q E hr h => ⟨_, (pss_cons (ps_fld (pv 0) (pe_ix (r := rIxL K) ix_list (pv 1) pe_int (fun _ _ => rfl)) rfl)
      (pss_cons (ps_fld (pv 0) (pe_lc (own := [("at", 2)]) rfl sc_Room_init.nd (pi_range3 (by rfl) T.n_range (pa_cons pe_int (pa_cons (pe_callB call_len_seq (by rfl) T.n_len PySem.boot_len (pa_cons (pv 1) pa_nil)) (pa_cons pe_int pa_nil)))) (blkOk_by (own := [("at", 2)]) (N := ["self", "told", "at"]) (sc := defScope s_Room_init) (by decide +kernel)) (fun _ _ _ _ _ => (pg_name (i := 2) sc_Room_init.nd rfl (Or.inl rfl))) (fun _ _ _ _ _ => pts_nil) (fun _ _ _ _ _ => (pe_tup (pa_cons (pe_ix (r := rIxL K) ix_list (pv 1) (pv 2) (fun _ _ => rfl)) (pa_cons (pe_ix (r := rIxL K) ix_list (pv 1) (pe_op op_add (pv 2) pe_int) (fun _ _ => rfl)) pa_nil))))) rfl)
      (pss_one (ps_fld (pv 0) (pe_op op_cat (pe_lc (own := [("at", 2)]) rfl sc_Room_init.nd (pi_range3 (by rfl) T.n_range (pa_cons pe_int (pa_cons (pe_callB call_len_seq (by rfl) T.n_len PySem.boot_len (pa_cons (pv 1) pa_nil)) (pa_cons pe_int pa_nil)))) (blkOk_by (own := [("at", 2)]) (N := ["self", "told", "at"]) (sc := defScope s_Room_init) (by decide +kernel)) (fun _ _ _ _ _ => (pg_name (i := 2) sc_Room_init.nd rfl (Or.inl rfl))) (fun _ _ _ _ _ => pts_nil) (fun _ _ _ _ _ => (pe_ix (r := rIxL K) ix_list (pv 1) (pe_op op_add (pv 2) pe_int) (fun _ _ => rfl)))) (pe_lst (pa_cons (pe_ix (r := rIxL K) ix_list (pv 1) pe_int (fun _ _ => rfl)) (pa_cons (pe_ix (r := rIxL K) ix_list (pv 1) pe_int (fun _ _ => rfl)) pa_nil)))) rfl)))), ?_⟩)
  · obtain ⟨x, dx, l, told, n, rfl, _⟩ := h
    rfl
  · obtain ⟨x, dx, l, told, n, rfl, hx, hl, hlen, n64, R, s1, s2, s3, k⟩ := h
    walk_at "d"
    repeat walk_at "s"
    refine r_ixL hl (at_told (i := 0) rfl (by omega)) ?_
    repeat walk_at "s"
    refine ⟨x, _, _, _, rfl, hx, T.k_Room, T.a_Room_height, by decide, ?_⟩
    have k0 : ∀ b u, b ≠ x → H b = some u → upd H x (.ins (He.ga K "Room") dx (putF "height" (.int (told.getD 0 0)) [])) b = some u := fun b u hb e => (upd_ne hb).trans e
    have hx1 : upd H x (.ins (He.ga K "Room") dx (putF "height" (.int (told.getD 0 0)) [])) x = some (.ins (He.ga K "Room") dx [("height", .int (told.getD 0 0))]) := upd_same
    have hl1 := lst_insP (o := .ins (He.ga K "Room") dx (putF "height" (.int (told.getD 0 0)) [])) hx hl
    generalize upd H x (.ins (He.ga K "Room") dx (putF "height" (.int (told.getD 0 0)) [])) = H1 at *
    repeat walk_at "s"
    refine r_iRng3 ?_
    repeat walk_at "s"
    refine ⟨l, _, rfl, .inl hl1, ?_⟩
    repeat walk_at "s"
    rw [List.length_map, hlen]
    refine ⟨_, _, _, n, rfl, rgc3 (lo := 3) (by omega) (by decide), fun D hD => ?_⟩
    refine lcRangeC (lo := 3) (c := 3) (n := n) (R := fun x y H => ∃ (i : Nat) (p : Addr), x = .int (3 + (i : Int) * 3) ∧ y = .ref p ∧ SqT K H p [.int (told.getD (3 + 3 * i) 0), .int (told.getD (4 + 3 * i) 0)]) (fun x y H H' e h => ?_) (fun x y H D l l' e h => ?_) hD (by omega) (fun i H2 G F hi S2 h1 => ?_) (fun H2 acc S2 gD pr => ?_)
    · obtain ⟨i, p, h1, h2, h3⟩ := h
      exact ⟨i, p, h1, h2, e.tup h3⟩
    · obtain ⟨i, p, h1, h2, h3⟩ := h
      exact ⟨i, p, h1, h2, tup_put e h3⟩
    · refine ⟨rfl, ?_⟩
      refine r_yes ?_
      refine r_itT rfl ?_
      have hl2 := S2.lst hl1
      repeat walk_at "s"
      refine r_ixL hl2 (at_told (i := 3 + 3 * i) (by omega) (by omega)) ?_
      repeat walk_at "s"
      refine r_ixL hl2 (at_told (i := 4 + 3 * i) (by omega) (by omega)) ?_
      repeat walk_at "s"
      refine ⟨sz2, fun p hp => ?_⟩
      exact h1 _ _ (same_new hp) ⟨i, p, rfl, rfl, SqT.of upd_same⟩
    · have hx2 := S2 _ _ hx1
      have hl2 := S2.lst hl1
      have cps := paired_at pr
      have plen := Paired.length pr
      have rl : (rgC 3 3 n).length = n := by unfold rgC; simp
      have eacc : acc = (acc.map backA).map V.ref := refs_back fun y hy => by
        obtain ⟨_, i, p, _, h2, _⟩ := paired_to pr y hy
        rw [h2]
        rfl
      have k1 : ∀ b u, b ≠ x → H b = some u → H2 b = some u := fun b u hb e => S2 _ _ (k0 b u hb e)
      repeat walk_at "s"
      refine ⟨x, _, _, _, rfl, hx2, T.k_Room, T.a_Room_corners, (by show 1 < 1000; decide), ?_⟩
      have nDx : D ≠ x := fun q => by rw [q, hx2] at gD; cases gD
      have e2 : putF "corners" (.ref D) [(("height" : Str), V.int (told.getD 0 0))] = room2 (told.getD 0 0) D := by rw [put_past (by decide)]; rfl
      rw [e2]
      have k2 : ∀ b u, b ≠ x → H b = some u → upd H2 x (.ins (He.ga K "Room") dx (room2 (told.getD 0 0) D)) b = some u := fun b u hb e => (upd_ne hb).trans (k1 b u hb e)
      have hx3 : upd H2 x (.ins (He.ga K "Room") dx (room2 (told.getD 0 0) D)) x = some (.ins (He.ga K "Room") dx (room2 (told.getD 0 0) D)) := upd_same
      have hl3 := lst_insP (o := .ins (He.ga K "Room") dx (room2 (told.getD 0 0) D)) hx2 hl2
      have gD3 : upd H2 x (.ins (He.ga K "Room") dx (room2 (told.getD 0 0) D)) D = some (.lst acc) := (upd_ne nDx).trans gD
      have cps3 : ∀ (j : Nat), j < n → ∃ p, acc[j]? = some (.ref p) ∧ SqT K (upd H2 x (.ins (He.ga K "Room") dx (room2 (told.getD 0 0) D))) p [.int (told.getD (3 + 3 * j) 0), .int (told.getD (4 + 3 * j) 0)] := fun j hj => by
        obtain ⟨b, h1, i, p, h2, h3, h4⟩ := cps j _ (rgC_at hj)
        have : i = j := by
          have := V.int.inj h2
          omega
        subst this
        rw [h3] at h1
        exact ⟨p, h1, tup_insP hx2 h4⟩
      clear cps pr
      generalize upd H2 x (.ins (He.ga K "Room") dx (room2 (told.getD 0 0) D)) = H3 at *
      repeat walk_at "s"
      refine r_iRng3 ?_
      repeat walk_at "s"
      refine ⟨l, _, rfl, .inl hl3, ?_⟩
      repeat walk_at "s"
      rw [List.length_map, hlen]
      refine ⟨_, _, _, n, rfl, rgc3 (lo := 3) (by omega) (by decide), fun D2 hD2 => ?_⟩
      refine lcRangeC (lo := 3) (c := 3) (n := n) (R := fun x y H => y = V.int (told.getD (natV x + 2) 0)) (fun x y H H' e h => h) (fun x y H D l l' e h => h) hD2 (by omega) (fun i H4 G F hi S4 h1 => ?_) (fun H4 acc2 S4 gD2 pr2 => ?_)
      · refine ⟨rfl, ?_⟩
        refine r_yes ?_
        refine r_itT rfl ?_
        have hl4 := S4.lst hl3
        repeat walk_at "s"
        refine r_ixL hl4 (at_told (i := 5 + 3 * i) (by omega) (by omega)) ?_
        refine h1 _ _ (Same.refl _) ?_
        show V.int (told.getD (5 + 3 * i) 0) = V.int (told.getD ((3 + (i : Int) * 3).toNat + 2) 0)
        rw [show (3 + (i : Int) * 3).toNat + 2 = 5 + 3 * i by omega]
      · have hl4 := S4.lst hl3
        repeat walk_at "s"
        refine r_ixL hl4 (at_told (i := 1) rfl (by omega)) ?_
        repeat walk_at "s"
        refine r_ixL hl4 (at_told (i := 2) rfl (by omega)) ?_
        repeat walk_at "s"
        refine ⟨sz2, fun p1 hp1 => ?_⟩
        have S5 := same_new (o := .lst [V.int (told.getD 1 0), V.int (told.getD 2 0)]) hp1
        have ea2 := paired_map pr2
        have el2 : acc2.length = n := by rw [ea2, List.length_map]; unfold rgC; simp
        refine ⟨D2, p1, acc2, _, rfl, rfl, S5 _ _ gD2, upd_same, Nat.le_trans (show acc2.length + 2 ≤ 1000 by omega) (by decide), fun p2 hp2 => ?_⟩
        have S6 := S5.trans (same_new (o := .lst (acc2 ++ [V.int (told.getD 1 0), V.int (told.getD 2 0)])) hp2)
        have g2 : upd (upd H4 p1 (.lst [V.int (told.getD 1 0), V.int (told.getD 2 0)])) p2 (.lst (acc2 ++ [V.int (told.getD 1 0), V.int (told.getD 2 0)])) p2 = some (.lst ((stf (roomT told n)).map V.int)) := by
          rw [upd_same, ea2]
          unfold stf rgC roomT
          rw [List.map_append, List.map_map, List.map_map, List.map_map]
          dsimp only [List.map_cons, List.map_nil]
          rw [stuff_back s1, stuff_back s2]
          congr 3
          refine List.map_congr_left fun i hi => ?_
          show V.int (told.getD ((3 + (i : Int) * 3).toNat + 2) 0) = V.int ((Eh.stuffOf (told.getD (5 + 3 * i) 0) : Nat) : Int)
          rw [stuff_back (s3 i (List.mem_range.mp hi)), show (3 + (i : Int) * 3).toNat + 2 = 5 + 3 * i by omega]
        generalize upd (upd H4 p1 (.lst [V.int (told.getD 1 0), V.int (told.getD 2 0)])) p2 (.lst (acc2 ++ [V.int (told.getD 1 0), V.int (told.getD 2 0)])) = H5 at *
        have S35 := S4.trans S6
        have hx5 := S35 _ _ hx3
        have n2x : p2 ≠ x := fun q => by rw [q, hx5] at g2; cases g2
        repeat walk_at "s"
        refine ⟨x, _, _, _, rfl, hx5, T.k_Room, T.a_Room_stuffs, (by show 2 < 1000; decide), ?_⟩
        have e3 : putF "stuffs" (.ref p2) (room2 (told.getD 0 0) D) = roomF (roomT told n).h D p2 := by unfold room2; rw [put_past (by decide), put_past (by decide)]; rfl
        rw [e3]
        refine k _ (fun b u hb e => (upd_ne hb).trans (S35 _ _ (k2 b u hb e))) ⟨R, dx, D, p2, acc.map backA, upd_same, ?_, ?_, fun i p hp => ?_, (upd_ne n2x).trans g2⟩
        · rw [upd_ne nDx, ← eacc]
          exact S35 _ _ gD3
        · rw [List.length_map, roomT_n, ← plen, rl]
        · have hi : i < n := by
            have := (List.getElem?_eq_some_iff.mp hp).1
            rw [List.length_map, ← plen, rl] at this
            exact this
          obtain ⟨q, h1, h2⟩ := cps3 i hi
          have e : p = q := by
            rw [List.getElem?_map, h1] at hp
            cases hp
            rfl
          rw [e, roomT_corner hi]
          exact tup_insP hx5 (S35.tup h2)
end
end Rt
set_option Elab.async false
set_option linter.all false
set_option maxRecDepth 100000
set_option maxHeartbeats 4000000
namespace Rt
open PySem PySem.Spec PyProof.Rows L2
open C8 (Cal Met Mak pe_c pe_mk pe_mt pe_mt0 pe_gc)
local macro_rules | `(tactic| walk_at "bd") => `(tactic| first
  | assumption | exact Bd.sub (by walk_at "bd") (by walk_at "bd") | exact Bd.add (by walk_at "bd") (by walk_at "bd") | exact Bd.mul (by walk_at "bd") (by walk_at "bd") | exact Bd.neg (by walk_at "bd") | exact Bd.lit (by decide))
local macro_rules | `(tactic| walk_at "r") => `(tactic| with_reducible first
  | refine r_seq ?_ | refine r_ret ?_ | refine r_asg ?_ | refine r_drop ?_ | refine r_op ?_ | refine r_un ?_ | refine r_c ?_ | refine r_cons ?_ | refine r_nil ?_ | refine r_i0 ?_ | refine r_U ?_ | refine r_name ?_ | refine r_if ?_ | refine r_test ?_ | refine r_tB ?_ | refine r_bl ?_
  | refine r_call ?_ | refine r_meth ?_ | refine r_fld ?_ | refine r_tup ?_ | refine r_lst ?_ | refine r_cb ?_ | refine r_andV ?_ | refine r_orV ?_ | refine r_notV ?_ | refine r_and ?_ | refine r_or ?_ | refine r_not ?_ | refine r_eqI ?_ | refine r_neI ?_ | refine r_eqB ?_ | refine r_neB ?_
  | refine r_next ?_ | refine r_par ?_ | refine r_lc ?_ | refine r_yes ?_ | refine r_iList ?_ | refine r_iRng1 ?_ | refine r_lstRg ?_ | refine r_rg1 ?_ | refine r_gcons ?_ | refine r_gnil ?_ | refine r_var (by with_unfolding_all rfl) ?_)
local macro_rules | `(tactic| walk_at "s") => `(tactic| first
  | walk_at "r" | (with_reducible refine r_itT rfl ?_) | (with_reducible refine r_itF rfl ?_) | (with_reducible refine r_ixT (by assumption) (by with_unfolding_all rfl) ?_) | ((with_reducible refine r_iM ?_ ?_); exact bd_mul (by walk_at "bd") (by walk_at "bd") (by decide)) | (with_reducible refine r_gtup (by assumption) (by with_unfolding_all rfl) ?_) | refine RoomAt.meth (by assumption) ?_)
local macro_rules | `(tactic| walk_at "d") => `(tactic| try dsimp only [cxOf, Cx.nox, Cx.wish])

local macro_rules | `(tactic| walk_at "s") => `(tactic| with_reducible first
  | refine r_sl ?_ | refine r_po0 ?_ | refine r_po1 ?_ | refine r_for ?_ | refine r_bm ?_ | refine r_make ?_ | refine r_sfld ?_ | refine r_inl ?_)

local macro_rules | `(tactic| walk_at "s") => `(tactic| with_reducible first
  | refine r_callS ?_ | refine r_methE ?_ | refine r_iRng3 ?_ | refine r_mkO ?_)

theorem cut3 {told : List Int} {a : Nat} {x y : Int} (h : a + 3 ≤ told.length) (ex : x = (a : Nat)) (ey : y = ((a + 3 : Nat) : Int)) : cutV (told.map V.int) (some x) (some y) = [.int (told.getD a 0), .int (told.getD (a + 1) 0), .int (told.getD (a + 2) 0)] := by
  subst ex ey
  unfold cutV
  rw [HT.sIx_nat, HT.sIx_nat, List.length_map, Nat.min_eq_left (by omega), Nat.min_eq_left (by omega), show a + 3 - a = 3 by omega]
  have g : ∀ j, j < told.length → (told.map V.int)[j]? = some (V.int (told.getD j 0)) := fun j hj => by
    rw [List.getElem?_map, List.getD_eq_getElem?_getD, List.getElem?_eq_getElem hj]
    rfl
  refine List.ext_getElem? fun j => ?_
  rw [List.getElem?_take, List.getElem?_drop]
  match j with
  | 0 => rw [if_pos (by decide), g _ (by omega)]; rfl
  | 1 => rw [if_pos (by decide), g _ (by omega)]; rfl
  | 2 => rw [if_pos (by decide), g _ (by omega)]; rfl
  | j + 3 => rw [if_neg (by omega)]; rfl
theorem cut2 {told : List Int} (h : 3 ≤ told.length) : cutV (told.map V.int) (some 1) (some 3) = [.int (told.getD 1 0), .int (told.getD 2 0)] := by
  have e : cutV (told.map V.int) (some ((1 : Nat) : Int)) (some ((3 : Nat) : Int)) = [.int (told.getD 1 0), .int (told.getD 2 0)] := by
    unfold cutV
    rw [HT.sIx_nat, HT.sIx_nat, List.length_map, Nat.min_eq_left (by omega), Nat.min_eq_left (by omega), show 3 - 1 = 2 by decide]
    have g : ∀ j, j < told.length → (told.map V.int)[j]? = some (V.int (told.getD j 0)) := fun j hj => by
      rw [List.getElem?_map, List.getD_eq_getElem?_getD, List.getElem?_eq_getElem hj]
      rfl
    refine List.ext_getElem? fun j => ?_
    rw [List.getElem?_take, List.getElem?_drop]
    match j with
    | 0 => rw [if_pos (by decide), g _ (by omega)]; rfl
    | 1 => rw [if_pos (by decide), g _ (by omega)]; rfl
    | j + 2 => rw [if_neg (by omega)]; rfl
  exact e
def offV : V → Bool
  | .int v => decide (v < 0) || decide (7 < v)
  | _ => false
theorem rw_T {told : List Int} (h2 : okHead told = true) (h1 : okShape told = true) (h3 : ∀ i, i < tellN told → ok3 told i = true) : RW (roomT told (tellN told)) := by
  unfold okShape at h1
  unfold okHead at h2
  simp only [Bool.and_eq_true, decide_eq_true_eq] at h1 h2
  obtain ⟨a1, a2, a3, a4⟩ := h1
  obtain ⟨b1, b2, b3, b4⟩ := h2
  refine ⟨by rw [roomT_n]; exact a3, by rw [roomT_n]; exact a4, b1, b2, fun i => ?_⟩
  have hm : i % tellN told < tellN told := Nat.mod_lt _ (by omega)
  have e : (roomT told (tellN told)).corner i = cornAt told (i % tellN told) := by
    rw [← roomT_corner hm]
    unfold Eh.Room.corner
    rw [roomT_n, Nat.mod_mod]
  rw [e]
  have h := h3 _ hm
  unfold ok3 at h
  simp only [Bool.and_eq_true, decide_eq_true_eq] at h
  exact ⟨h.1, h.2.1, h.2.2.1, h.2.2.2.1⟩
theorem must_go {C : Addr} {so : Bool} {x y : V} {H : Hp} {Q : VK} {E : XK} (h1 : so = true → Q .non H) (h2 : so = false → ∀ d, H d = none → E (.ref C) (some d) (upd H d (.xd (fauF x y)))) : spMust C [.bl so, x, y] H Q E := ⟨so, x, y, rfl, h1, h2⟩
section
variable {P : Program} {w : World} {K : PySem.W.Frag} {mg : Str → Option Value} {base : Heap}
def spRead (K : PySem.W.Frag) : Sp := fun vs H Q E => ∃ (l : Addr) (told : List Int), vs = [.ref l] ∧ SqL K H l (told.map V.int) ∧ told.length ≤ 100000 ∧
  (iFault told = none → ∀ H' x, Same H H' → RoomAt K H' x (roomT told (tellN told)) → Q (.ref x) H') ∧
  ∀ k i : Nat, iFault told = some (k, i) → ∀ H' d, Same H H' → H' d = none → E (.ref (He.ga K "Fault")) (some d) (upd H' d (.xd (fauF (.int (k : Int)) (.int (i : Int)))))
theorem ok_read_room (T : Tx K mg base) : CalE (L2N.CX P w) P w K mg base 8 "read_room" (spRead K) := by
  refine mkE T.f_read_room T.g_read_room sc_read_room (fun _ _ _ _ _ _ us hl => match us, hl with | [_], _ => rfl) (fun vs H Q E h => ?_) (fun f cdv A outer s H vs Q E hr h => ⟨_, (pss_cons (ps_set (i := 1) sc_read_room.nd rfl (Or.inl rfl) (pe_op op_fdiv (pe_op op_sub (pe_callB call_len_seq (by rfl) T.n_len PySem.boot_len (pa_cons (pv 0) pa_nil)) pe_int) pe_int))
      (pss_cons (ps_expr (pe_cE (ok_must_rooms T) hr (by decide) rfl (fun σ => L2N.passAt (L2N.takes_of rfl rfl rfl rfl) σ) (pa_cons (pe_and (pe_cmpR op_ge (pe_callB call_len_seq (by rfl) T.n_len PySem.boot_len (pa_cons (pv 0) pa_nil)) pe_int (nomark _)) (pe_and (pe_cmpR op_eq (pe_op op_mod (pe_callB call_len_seq (by rfl) T.n_len PySem.boot_len (pa_cons (pv 0) pa_nil)) pe_int) pe_int (nomark _)) (pe_and (pe_cmpR op_ge (pv 1) (pe_gc rfl T.c_LEAST_CORNERS) (nomark _)) (pe_one (pe_cmpR op_le (pv 1) (pe_gc rfl T.c_MOST_CORNERS) (nomark _)))))) (pa_cons pe_int (pa_cons pe_int pa_nil)))))
      (pss_cons (ps_setLc (i := 2) (own := [("stuff", 6)]) rfl sc_read_room.nd rfl rfl (sw_true rfl rfl rfl (by decide +kernel)) (pi_list (pe_slice (r := rSlL K) sl_list (pv 0) (po_some pe_int) (po_some pe_int))) (blkOk_by (own := [("stuff", 6)]) (N := ["told", "many", "stuffs", "i", "x", "y", "stuff", "room", "j"]) (sc := defScope s_read_room) (by decide +kernel)) (fun _ _ _ _ _ => (pg_name (i := 6) sc_read_room.nd rfl (Or.inl rfl))) (fun _ _ _ _ _ => (pts_one (PW.pt (pw_or (pt_cmpR op_lt (pv 6) pe_int (nomark _)) (pw_or1 (pt_cmpR op_gt (pv 6) (pe_gc rfl T.c_MOST_STUFF) (nomark _))))))) (fun _ _ _ _ _ => (pv 6)))
      (pss_cons (ps_expr (pe_cE (ok_must_rooms T) hr (by decide) rfl (fun σ => L2N.passAt (L2N.takes_of rfl rfl rfl rfl) σ) (pa_cons (pe_and (pe_cmpR op_ge (pe_ix (r := rIxL K) ix_list (pv 0) pe_int (fun _ _ => rfl)) pe_int (nomark _)) (pe_and (pe_cmpR op_le (pe_ix (r := rIxL K) ix_list (pv 0) pe_int (fun _ _ => rfl)) (pe_gc rfl T.c_MOST) (nomark _)) (pe_one (pe_cmpR (r := rEqD K) (op_eqD hr.units) (pv 2) (pe_lst pa_nil) (nomark _))))) (pa_cons pe_int (pa_cons pe_int pa_nil)))))
      (pss_cons (ps_for (L2.passes_of rfl) rfl (pi_range1 (by rfl) T.n_range (pa_cons (pv 1) pa_nil)) (pg_name (i := 3) sc_read_room.nd rfl (Or.inr rfl)) (pss_cons (ps_asg (pe_slice (r := rSlL K) sl_list (pv 0) (po_some (pe_op op_add pe_int (pe_op op_mulW pe_int (pv 3)))) (po_some (pe_op op_add pe_int (pe_op op_mulW pe_int (pv 3))))) (pg_lst rfl (pgs_cons (pg_name (i := 4) sc_read_room.nd rfl (Or.inl rfl)) (pgs_cons (pg_name (i := 5) sc_read_room.nd rfl (Or.inl rfl)) (pgs_cons (pg_name (i := 6) sc_read_room.nd rfl (Or.inl rfl)) pgs_nil)))))
      (pss_one (ps_expr (pe_cE (ok_must_rooms T) hr (by decide) rfl (fun σ => L2N.passAt (L2N.takes_of rfl rfl rfl rfl) σ) (pa_cons (pe_and (pe_cmpR op_ge (pv 4) pe_int (nomark _)) (pe_and (pe_cmpR op_le (pv 4) (pe_gc rfl T.c_MOST) (nomark _)) (pe_and (pe_cmpR op_ge (pv 5) pe_int (nomark _)) (pe_and (pe_cmpR op_le (pv 5) (pe_gc rfl T.c_MOST) (nomark _)) (pe_and (pe_cmpR op_ge (pv 6) pe_int (nomark _)) (pe_one (pe_cmpR op_le (pv 6) (pe_gc rfl T.c_MOST_STUFF) (nomark _)))))))) (pa_cons pe_int (pa_cons (pv 3) pa_nil))))))))
      (pss_cons (ps_set (i := 7) sc_read_room.nd rfl (Or.inr rfl) (pe_mk (ok_Room_init T) hr (by decide) rfl (pa_cons (pv 0) pa_nil)))
      (pss_cons (ps_for (L2.passes_of rfl) rfl (pi_range1 (by rfl) T.n_range (pa_cons (pv 1) pa_nil)) (pg_name (i := 3) sc_read_room.nd rfl (Or.inr rfl)) (pss_one (ps_expr (pe_cE (ok_must_rooms T) hr (by decide) rfl (fun σ => L2N.passAt (L2N.takes_of rfl rfl rfl rfl) σ) (pa_cons (pe_c (ok_has_direction T) hr (by decide) rfl (pa_cons (pe_mt (ok_Room_direction T) hr (by decide) (pv 7) (pa_cons (pv 3) pa_nil)) pa_nil)) (pa_cons pe_int (pa_cons (pv 3) pa_nil)))))))
      (pss_cons (ps_for (L2.passes_of rfl) rfl (pi_range1 (by rfl) T.n_range (pa_cons (pv 1) pa_nil)) (pg_name (i := 3) sc_read_room.nd rfl (Or.inr rfl)) (pss_one (ps_expr (pe_cE (ok_must_rooms T) hr (by decide) rfl (fun σ => L2N.passAt (L2N.takes_of rfl rfl rfl rfl) σ) (pa_cons (pe_cmpR op_ne (pe_c (ok_cross T) hr (by decide) rfl (pa_cons (pe_mt (ok_Room_direction T) hr (by decide) (pv 7) (pa_cons (pv 3) pa_nil)) (pa_cons (pe_mt (ok_Room_direction T) hr (by decide) (pv 7) (pa_cons (pe_op op_mod (pe_op op_add (pv 3) pe_int) (pv 1)) pa_nil)) pa_nil))) pe_int (nomark _)) (pa_cons pe_int (pa_cons (pv 3) pa_nil)))))))
      (pss_cons (ps_for (L2.passes_of rfl) rfl (pi_range1 (by rfl) T.n_range (pa_cons (pv 1) pa_nil)) (pg_name (i := 3) sc_read_room.nd rfl (Or.inr rfl)) (pss_one (ps_expr (pe_cE (ok_must_rooms T) hr (by decide) rfl (fun σ => L2N.passAt (L2N.takes_of rfl rfl rfl rfl) σ) (pa_cons (pe_not (pe_callB (cr_any rfl) (by rfl) T.n_any (by decide +kernel) (pa_cons (pe_lc (own := [("j", 8)]) rfl sc_read_room.nd (pi_range1 (by rfl) T.n_range (pa_cons (pv 1) pa_nil)) (blkOk_by (own := [("j", 8)]) (N := ["told", "many", "stuffs", "i", "x", "y", "stuff", "room", "j"]) (sc := defScope s_read_room) (by decide +kernel)) (fun _ _ _ _ _ => (pg_name (i := 8) sc_read_room.nd rfl (Or.inl rfl))) (fun _ _ _ _ _ => pts_nil) (fun _ _ _ _ _ => (pe_and (pe_c (ok_are_apart T) hr (by decide) rfl (pa_cons (pv 7) (pa_cons (pv 3) (pa_cons (pv 8) pa_nil)))) (pe_one (pe_c (ok_meet T) hr (by decide) rfl (pa_cons (pv 7) (pa_cons (pv 3) (pa_cons (pv 8) pa_nil)))))))) pa_nil))) (pa_cons pe_int (pa_cons (pv 3) pa_nil)))))))
      (pss_cons (ps_expr (pe_cE (ok_must_rooms T) hr (by decide) rfl (fun σ => L2N.passAt (L2N.takes_of rfl rfl rfl rfl) σ) (pa_cons (pe_cmpR op_gt (pe_c (ok_area T) hr (by decide) rfl (pa_cons (pv 7) pa_nil)) pe_int (nomark _)) (pa_cons pe_int (pa_cons pe_int pa_nil)))))
      (pss_one (ps_ret (pv 7))))))))))))), ?_⟩)
  · obtain ⟨l, told, rfl, _⟩ := h
    rfl
  · obtain ⟨l, told, rfl, hl, big, k0, kf⟩ := h
    walk_at "d"
    repeat walk_at "s"
    refine ⟨l, _, rfl, .inl hl, ?_⟩
    repeat walk_at "s"
    refine r_iC (C := CDiv) ⟨by decide, by decide⟩ ?_
    rw [List.length_map]
    have b1 : okShape told = false → ∀ Q', spMust (He.ga K "Fault") [.bl false, .int 1, .int 0] H Q' (fun cls d H => E cls d H) := fun h Q' => must_go (fun z => nomatch z) fun _ d hd => kf 1 0 (fault1 h) H d (Same.refl H) hd
    repeat walk_at "s"
    refine ⟨l, _, rfl, .inl hl, ?_⟩
    rw [List.length_map]
    repeat walk_at "s"
    refine r_iteB (fun c1 => ?_) fun c1 => ?_
    rotate_left
    · have c1 := of_decide_eq_false c1
      repeat walk_at "s"
      refine b1 ?_ _
      unfold okShape
      rw [decide_eq_false (by omega)]
      rfl
    have c1 := of_decide_eq_true c1
    have len3 : 3 ≤ told.length := by omega
    have eM : ((told.length : Int) - 3) / 3 = (tellN told : Nat) := by unfold tellN; omega
    rw [eM]
    repeat walk_at "s"
    refine ⟨l, _, rfl, .inl hl, ?_⟩
    rw [List.length_map]
    repeat walk_at "s"
    refine r_iC (show (0 : Int) < 3 by decide) ?_
    repeat walk_at "s"
    refine r_iteB (fun c2 => ?_) fun c2 => ?_
    rotate_left
    · have c2 := of_decide_eq_false c2
      repeat walk_at "s"
      refine b1 ?_ _
      unfold okShape
      rw [decide_eq_true len3, Bool.true_and, decide_eq_false (by omega)]
      rfl
    have c2 := of_decide_eq_true c2
    repeat walk_at "s"
    refine r_iteB (fun c3 => ?_) fun c3 => ?_
    rotate_left
    · have c3 := of_decide_eq_false c3
      repeat walk_at "s"
      refine b1 ?_ _
      unfold okShape
      rw [decide_eq_true len3, Bool.true_and, decide_eq_true (show told.length % 3 = 0 by omega), Bool.true_and, decide_eq_false (show ¬ 3 ≤ tellN told by omega)]
      rfl
    have c3 := of_decide_eq_true c3
    repeat walk_at "s"
    refine must_go (fun c4 => ?_) (fun c4 => ?_)
    rotate_left
    · have c4 := of_decide_eq_false c4
      refine fun d hd => kf 1 0 (fault1 ?_) H d (Same.refl H) hd
      unfold okShape
      rw [decide_eq_true len3, Bool.true_and, decide_eq_true (show told.length % 3 = 0 by omega), Bool.true_and, decide_eq_true (show 3 ≤ tellN told by omega), Bool.true_and, decide_eq_false (show ¬ tellN told ≤ 64 by omega)]
    have c4 := of_decide_eq_true c4
    have s1 : okShape told = true := by
      unfold okShape
      rw [decide_eq_true len3, Bool.true_and, decide_eq_true (show told.length % 3 = 0 by omega), Bool.true_and, decide_eq_true (show 3 ≤ tellN told by omega), Bool.true_and, decide_eq_true (show tellN told ≤ 64 by omega)]
    have elen : told.length = 3 + 3 * tellN told := by unfold tellN; omega
    repeat walk_at "s"
    refine ⟨l, _, rfl, hl, fun M hM => ?_⟩
    rw [cut2 len3]
    have S1 := same_new (o := .lst [V.int (told.getD 1 0), V.int (told.getD 2 0)]) hM
    have gM : SqL K (upd H M (.lst [V.int (told.getD 1 0), V.int (told.getD 2 0)])) M [V.int (told.getD 1 0), V.int (told.getD 2 0)] := SqL.of upd_same
    generalize upd H M (.lst [V.int (told.getD 1 0), V.int (told.getD 2 0)]) = H1 at *
    repeat walk_at "s"
    refine ⟨M, rfl, ⟨_, gM⟩, fun D hD => ?_⟩
    refine lcListV (f := fun x => x) (p := offV) hD gM (show 2 ≤ 1000000 by decide) (fun m x H2 G F hx S2 h0 h1 => ?_) (fun H2 S2 gD => ?_)
    · refine ⟨rfl, ?_⟩
      obtain ⟨v, rfl⟩ : ∃ v : Int, x = .int v := by
        rcases two hx with ⟨_, rfl⟩ | ⟨_, rfl⟩ <;> exact ⟨_, rfl⟩
      repeat walk_at "s"
      refine r_iteB (fun c => ?_) fun c => ?_
      · refine r_itT rfl ?_
        repeat walk_at "s"
        refine h1 ?_ _ (Same.refl _)
        show (decide (v < 0) || decide (7 < v)) = true
        rw [c]
        rfl
      · repeat walk_at "s"
        refine r_iteB (fun c' => ?_) fun c' => ?_
        · repeat walk_at "s"
          refine h1 ?_ _ (Same.refl _)
          show (decide (v < 0) || decide (7 < v)) = true
          rw [c, c']
          rfl
        · refine h0 ?_ _ (Same.refl _)
          show (decide (v < 0) || decide (7 < v)) = false
          rw [c, c']
          rfl
    have S02 := S1.trans S2
    have hl2 := S02.lst hl
    have b2 : okHead told = false → ∀ H' Q', Same H H' → spMust (He.ga K "Fault") [.bl false, .int 2, .int 0] H' Q' (fun cls d H => E cls d H) := fun h H' Q' S' => must_go (fun z => nomatch z) fun _ d hd => kf 2 0 (fault2 s1 h) H' d S' hd
    repeat walk_at "s"
    refine r_ixL hl2 (at_told (i := 0) rfl (by omega)) ?_
    repeat walk_at "s"
    refine r_iteB (fun c5 => ?_) fun c5 => ?_
    rotate_left
    · have c5 := of_decide_eq_false c5
      repeat walk_at "s"
      refine b2 ?_ _ _ S02
      unfold okHead
      rw [decide_eq_false (by omega)]
      rfl
    have c5 := of_decide_eq_true c5
    repeat walk_at "s"
    refine r_ixL hl2 (at_told (i := 0) rfl (by omega)) ?_
    repeat walk_at "s"
    refine r_iteB (fun c6 => ?_) fun c6 => ?_
    rotate_left
    · have c6 := of_decide_eq_false c6
      repeat walk_at "s"
      refine b2 ?_ _ _ S02
      unfold okHead
      rw [decide_eq_true (show 1 ≤ told.getD 0 0 by omega), Bool.true_and, decide_eq_false (by omega)]
      rfl
    have c6 := of_decide_eq_true c6
    repeat walk_at "s"
    refine ⟨sz0, fun N hN => ?_⟩
    have S3 := same_new (o := .lst []) hN
    have gN : SqL K (upd H2 N (.lst [])) N (([] : List Int).map V.int) := SqL.of upd_same
    have gD3 := S3 _ _ gD
    have S03 := S02.trans S3
    generalize upd H2 N (.lst []) = H3 at *
    have deq : ∀ Q' : VK, Q' (.bl ((decide (0 ≤ told.getD 1 0) && decide (told.getD 1 0 ≤ 7)) && (decide (0 ≤ told.getD 2 0) && decide (told.getD 2 0 ≤ 7)))) H3 → rEqD K (.ref D) (.ref N) H3 Q' := by
      intro Q' q
      have ok : ∀ v : Int, offV (.int v) = !(decide (0 ≤ v) && decide (v ≤ 7)) := fun v => by
        show (decide (v < 0) || decide (7 < v)) = _
        by_cases h1 : 0 ≤ v
        · by_cases h2 : v ≤ 7
          · rw [decide_eq_false (by omega), decide_eq_false (by omega), decide_eq_true h1, decide_eq_true h2]; rfl
          · rw [decide_eq_false (show ¬ v < 0 by omega), decide_eq_true (show 7 < v by omega), decide_eq_true h1, decide_eq_false h2]; rfl
        · rw [decide_eq_true (show v < 0 by omega), decide_eq_false h1]; rfl
      rw [List.filter_cons, List.filter_cons, List.filter_nil, ok, ok] at gD3
      cases e1 : (decide (0 ≤ told.getD 1 0) && decide (told.getD 1 0 ≤ 7)) <;> cases e2 : (decide (0 ≤ told.getD 2 0) && decide (told.getD 2 0 ≤ 7)) <;> rw [e1, e2] at gD3 q
      · exact r_eqLs (ns := [told.getD 1 0, told.getD 2 0]) (ms := []) (SqL.of gD3) gN rfl rfl q
      · exact r_eqLs (ns := [told.getD 1 0]) (ms := []) (SqL.of gD3) gN rfl rfl q
      · exact r_eqLs (ns := [told.getD 2 0]) (ms := []) (SqL.of gD3) gN rfl rfl q
      · exact r_eqLs (ns := []) (ms := []) (SqL.of gD3) gN rfl rfl q
    refine deq _ ?_
    repeat walk_at "s"
    refine must_go (fun c7 => ?_) (fun c7 => ?_)
    rotate_left
    · refine fun d hd => kf 2 0 (fault2 s1 ?_) H3 d S03 hd
      unfold okHead
      rw [decide_eq_true (show 1 ≤ told.getD 0 0 by omega), Bool.true_and, decide_eq_true (show told.getD 0 0 ≤ 4095 by omega), Bool.true_and]
      exact c7
    have s2 : okHead told = true := by
      unfold okHead
      rw [decide_eq_true (show 1 ≤ told.getD 0 0 by omega), Bool.true_and, decide_eq_true (show told.getD 0 0 ≤ 4095 by omega), Bool.true_and]
      exact c7
    clear deq gD3 gN gD b1 b2 c7
    generalize hn : tellN told = n at *
    repeat walk_at "s"
    refine ⟨_, rfl, by omega, by omega, ?_⟩
    rw [Int.toNat_natCast]
    refine for_range (lo := 0) (n := n) (fun i σ H' => ∃ (x3 x4 x5 x6 x7 x8 : Option V), σ = [some (.ref l), some (.int (n : Int)), some (.ref D), x3, x4, x5, x6, x7, x8] ∧ Same H H' ∧ ∀ j, j < i → ok3 told j = true) ⟨_, _, _, _, _, _, rfl, S03, fun j hj => absurd hj (Nat.not_lt_zero _)⟩ (fun i σ H4 hi z => ?_) (fun σ H4 z => ?_)
    · obtain ⟨x3, x4, x5, x6, x7, x8, rfl, S04, ok⟩ := z
      have hl4 := S04.lst hl
      have bi : Bd 20 (i : Int) := ⟨by omega⟩
      rw [Int.zero_add]
      have b3 : ok3 told i = false → ∀ H' Q', Same H H' → spMust (He.ga K "Fault") [.bl false, .int 3, .int (i : Int)] H' Q' (fun cls d H => E cls d H) := fun h H' Q' S' => must_go (fun z => nomatch z) fun _ d hd => kf 3 i (fault3 s1 s2 (by rw [hn]; exact firstBad_some hi ok h)) H' d S' hd
      repeat walk_at "s"
      refine ⟨l, _, rfl, hl4, fun M2 hM2 => ?_⟩
      rw [cut3 (a := 3 + 3 * i) (by omega) (by omega) (by omega)]
      have S5 := same_new (o := .lst [V.int (told.getD (3 + 3 * i) 0), V.int (told.getD (3 + 3 * i + 1) 0), V.int (told.getD (3 + 3 * i + 2) 0)]) hM2
      have gM2 : SqL K (upd H4 M2 (.lst [V.int (told.getD (3 + 3 * i) 0), V.int (told.getD (3 + 3 * i + 1) 0), V.int (told.getD (3 + 3 * i + 2) 0)])) M2 [V.int (told.getD (3 + 3 * i) 0), V.int (told.getD (3 + 3 * i + 1) 0), V.int (told.getD (3 + 3 * i + 2) 0)] := SqL.of upd_same
      have S05 := S04.trans S5
      generalize upd H4 M2 (.lst [V.int (told.getD (3 + 3 * i) 0), V.int (told.getD (3 + 3 * i + 1) 0), V.int (told.getD (3 + 3 * i + 2) 0)]) = H5 at *
      have eo : ok3 told i = (decide (0 ≤ told.getD (3 + 3 * i) 0) && (decide (told.getD (3 + 3 * i) 0 ≤ 4095) && (decide (0 ≤ told.getD (3 + 3 * i + 1) 0) && (decide (told.getD (3 + 3 * i + 1) 0 ≤ 4095) && (decide (0 ≤ told.getD (3 + 3 * i + 2) 0) && decide (told.getD (3 + 3 * i + 2) 0 ≤ 7)))))) := by
        unfold ok3
        rw [show 3 + 3 * i + 1 = 4 + 3 * i by omega, show 3 + 3 * i + 2 = 5 + 3 * i by omega]
      refine r_glst gM2 rfl ?_
      generalize told.getD (3 + 3 * i) 0 = u at *
      generalize told.getD (3 + 3 * i + 1) 0 = v at *
      generalize told.getD (3 + 3 * i + 2) 0 = t at *
      repeat walk_at "s"
      refine r_iteB (fun d1 => ?_) fun d1 => ?_
      rotate_left
      · repeat walk_at "s"
        exact b3 (by rw [eo, d1]; rfl) _ _ S05
      repeat walk_at "s"
      refine r_iteB (fun d2 => ?_) fun d2 => ?_
      rotate_left
      · repeat walk_at "s"
        exact b3 (by rw [eo, d1, d2]; rfl) _ _ S05
      repeat walk_at "s"
      refine r_iteB (fun d3 => ?_) fun d3 => ?_
      rotate_left
      · repeat walk_at "s"
        exact b3 (by rw [eo, d1, d2, d3]; rfl) _ _ S05
      repeat walk_at "s"
      refine r_iteB (fun d4 => ?_) fun d4 => ?_
      rotate_left
      · repeat walk_at "s"
        exact b3 (by rw [eo, d1, d2, d3, d4]; rfl) _ _ S05
      repeat walk_at "s"
      refine r_iteB (fun d5 => ?_) fun d5 => ?_
      rotate_left
      · repeat walk_at "s"
        exact b3 (by rw [eo, d1, d2, d3, d4, d5]; rfl) _ _ S05
      repeat walk_at "s"
      refine must_go (fun d6 => ?_) (fun d6 => ?_)
      · refine ⟨_, _, _, _, _, _, rfl, S05, fun j hj => ?_⟩
        by_cases q : j < i
        · exact ok j q
        · have : j = i := by omega
          rw [this, eo, d1, d2, d3, d4, d5, d6]
          rfl
      · exact fun d hd => kf 3 i (fault3 s1 s2 (by rw [hn]; exact firstBad_some hi ok (by rw [eo, d1, d2, d3, d4, d5, d6]; rfl))) H5 d S05 hd
    obtain ⟨x3, x4, x5, x6, x7, x8, rfl, S04, ok⟩ := z
    have R : RW (roomT told n) := by
      have := rw_T s2 s1 (by rw [hn]; exact ok)
      rw [hn] at this
      exact this
    have s3 : firstBad (ok3 told) (tellN told) = none := by rw [hn]; exact firstBad_none ok
    have ok5' : ∀ i, i < n → 0 ≤ told.getD (5 + 3 * i) 0 := fun i hi => by
      have h := ok i hi
      unfold ok3 at h
      simp only [Bool.and_eq_true, decide_eq_true_eq] at h
      exact h.2.2.2.2.1
    have hh := s2
    unfold okHead at hh
    simp only [Bool.and_eq_true, decide_eq_true_eq] at hh
    repeat walk_at "s"
    intro x dx hx hdx ne
    have nlx : ∀ {o1 o2 : HO}, SqL K (upd (upd H4 dx o1) x o2) l (told.map V.int) := ((S04.trans ((same_new hdx).trans (same_new (by rw [upd_ne (Ne.symm ne)]; exact hx)))).lst hl)
    refine ⟨x, dx, l, told, n, rfl, upd_same, nlx, elen, by omega, R, hh.2.2.1.1, hh.2.2.2.1, ok5', fun H5 S5 hR => ⟨rfl, ?_⟩⟩
    have nx : ∀ {b u}, H b = some u → b ≠ x := fun {b u} e q => by
      have := S04 _ _ e
      rw [q, hx] at this
      cases this
    have S05 : Same H H5 := fun b u e => S5 b u (nx e) (by
      have e4 := S04 _ _ e
      rw [upd_ne (nx e), upd_ne (fun q => by rw [q, hdx] at e4; cases e4)]
      exact e4)
    clear S5 nx nlx hh ok5'
    repeat walk_at "s"
    refine ⟨_, rfl, by omega, by omega, ?_⟩
    rw [Int.toNat_natCast]
    refine for_range (lo := 0) (n := n) (fun i σ H' => ∃ (x3 x4 x5 x6 x8 : Option V), σ = [some (.ref l), some (.int (n : Int)), some (.ref D), x3, x4, x5, x6, some (.ref x), x8] ∧ Same H H' ∧ RoomAt K H' x (roomT told n) ∧ ∀ j, j < i → ok4 (roomT told n) j = true) ⟨_, _, _, _, _, rfl, S05, hR, fun j hj => absurd hj (Nat.not_lt_zero _)⟩ (fun i σ H6 hi z => ?_) (fun σ H6 z => ?_)
    · obtain ⟨x3, x4, x5, x6, x8, rfl, S06, hR6, ok'⟩ := z
      rw [Int.zero_add]
      repeat walk_at "s"
      refine ⟨x, _, i, rfl, hR6, fun H7 p7 S7 hp7 => ?_⟩
      repeat walk_at "s"
      refine ⟨p7, _, _, rfl, hp7, fun H8 S8 => ?_⟩
      have S08 := (S06.trans S7).trans S8
      repeat walk_at "s"
      refine must_go (fun d1 => ?_) (fun d1 => ?_)
      · refine ⟨_, _, _, _, _, rfl, S08, hR6.same (S7.trans S8), fun j hj => ?_⟩
        by_cases q : j < i
        · exact ok' j q
        · have : j = i := by omega
          rw [this]
          exact d1
      · exact fun d hd => kf 4 i (fault4 s1 s2 s3 (by rw [hn]; exact firstBad_some hi ok' d1)) H8 d S08 hd
    obtain ⟨x3, x4, x5, x6, x8, rfl, S06, hR6, ok'⟩ := z
    have s4 : firstBad (ok4 (roomT told (tellN told))) (tellN told) = none := by rw [hn]; exact firstBad_none ok'
    repeat walk_at "s"
    refine ⟨_, rfl, by omega, by omega, ?_⟩
    rw [Int.toNat_natCast]
    refine for_range (lo := 0) (n := n) (fun i σ H' => ∃ (x3 x4 x5 x6 x8 : Option V), σ = [some (.ref l), some (.int (n : Int)), some (.ref D), x3, x4, x5, x6, some (.ref x), x8] ∧ Same H H' ∧ RoomAt K H' x (roomT told n) ∧ ∀ j, j < i → ok5 (roomT told n) n j = true) ⟨_, _, _, _, _, rfl, S06, hR6, fun j hj => absurd hj (Nat.not_lt_zero _)⟩ (fun i σ H6 hi z => ?_) (fun σ H6 z => ?_)
    · obtain ⟨x3, x4, x5, x6, x8, rfl, S06, hR6, ok'⟩ := z
      rw [Int.zero_add]
      repeat walk_at "s"
      refine ⟨x, _, i, rfl, hR6, fun H7 p7 S7 hp7 => ?_⟩
      have hR7 := hR6.same S7
      repeat walk_at "s"
      refine r_iC (show (0 : Int) < (n : Int) by omega) ?_
      repeat walk_at "s"
      refine ⟨x, _, (i + 1) % n, by simp, hR7, fun H8 p8 S8 hp8 => ?_⟩
      have S68 := S7.trans S8
      repeat walk_at "s"
      refine ⟨p7, p8, _, _, _, _, rfl, S8.tup hp7, hp8, ⟨(R.dx i).mono (by decide), (R.dy i).mono (by decide), (R.dx _).mono (by decide), (R.dy _).mono (by decide)⟩, ?_⟩
      repeat walk_at "s"
      refine must_go (fun d1 => ?_) (fun d1 => ?_)
      · refine ⟨_, _, _, _, _, rfl, S06.trans S68, hR6.same S68, fun j hj => ?_⟩
        by_cases q : j < i
        · exact ok' j q
        · have : j = i := by omega
          rw [this]
          exact d1
      · exact fun d hd => kf 5 i (fault5 s1 s2 s3 s4 (by rw [hn]; exact firstBad_some hi ok' d1)) H8 d (S06.trans S68) hd
    obtain ⟨x3, x4, x5, x6, x8, rfl, S06, hR6, ok'⟩ := z
    have s5 : firstBad (ok5 (roomT told (tellN told)) (tellN told)) (tellN told) = none := by rw [hn]; exact firstBad_none ok'
    repeat walk_at "s"
    refine ⟨_, rfl, by omega, by omega, ?_⟩
    rw [Int.toNat_natCast]
    refine for_range (lo := 0) (n := n) (fun i σ H' => ∃ (x3 x4 x5 x6 x8 : Option V), σ = [some (.ref l), some (.int (n : Int)), some (.ref D), x3, x4, x5, x6, some (.ref x), x8] ∧ Same H H' ∧ RoomAt K H' x (roomT told n) ∧ ∀ j, j < i → ok6 (roomT told n) n j = true) ⟨_, _, _, _, _, rfl, S06, hR6, fun j hj => absurd hj (Nat.not_lt_zero _)⟩ (fun i σ H6 hi z => ?_) (fun σ H6 z => ?_)
    · obtain ⟨x3, x4, x5, x6, x8, rfl, S06, hR6, ok'⟩ := z
      rw [Int.zero_add]
      repeat walk_at "s"
      refine ⟨_, rfl, by omega, by omega, fun D3 hD3 => ?_⟩
      rw [Int.toNat_natCast]
      refine lcRangeV (lo := 0) (n := n) (f := fun y => .bl (iApart (roomT told n) i (natV y) && iMeet (roomT told n) i (natV y))) (p := fun _ => true) hD3 (by omega) (fun j H7 G F hj S7 h1 h2 => ?_) (fun H7 S7 e => ?_)
      · rw [Int.zero_add] at h2 ⊢
        refine ⟨rfl, ?_⟩
        refine r_yes ?_
        refine r_itT rfl ?_
        have hR7 := hR6.same S7
        repeat walk_at "s"
        refine ⟨x, _, i, j, rfl, hR7, fun H8 S8 => ?_⟩
        have hR8 := hR7.same S8
        repeat walk_at "s"
        refine r_iteB (fun d1 => ?_) fun d1 => ?_
        · repeat walk_at "s"
          refine ⟨x, _, i, j, rfl, hR8, fun H9 S9 => ?_⟩
          have h3 := h2 rfl _ (S8.trans S9)
          have en : natV (.int (j : Int)) = j := Int.toNat_natCast j
          rw [en, d1, Bool.true_and] at h3
          exact h3
        · have h3 := h2 rfl _ S8
          have en : natV (.int (j : Int)) = j := Int.toNat_natCast j
          rw [en, d1, Bool.false_and] at h3
          exact h3
      · rw [rg_bl fun j => iApart (roomT told n) i j && iMeet (roomT told n) i j] at e
        repeat walk_at "s"
        refine ⟨_, _, rfl, SqL.of e, ?_⟩
        repeat walk_at "s"
        have ea : ((List.range n).map fun j => iApart (roomT told n) i j && iMeet (roomT told n) i j).any id = (List.range n).any fun j => iApart (roomT told n) i j && iMeet (roomT told n) i j := by
          rw [List.any_map]
          rfl
        rw [ea]
        refine must_go (fun d1 => ?_) (fun d1 => ?_)
        · refine ⟨_, _, _, _, _, rfl, S06.trans S7, hR6.same S7, fun j hj => ?_⟩
          by_cases q : j < i
          · exact ok' j q
          · have : j = i := by omega
            rw [this]
            exact d1
        · exact fun d hd => kf 6 i (fault6 s1 s2 s3 s4 s5 (by rw [hn]; exact firstBad_some hi ok' d1)) H7 d (S06.trans S7) hd
    obtain ⟨x3, x4, x5, x6, x8, rfl, S06, hR6, ok'⟩ := z
    have s6 : firstBad (ok6 (roomT told (tellN told)) (tellN told)) (tellN told) = none := by rw [hn]; exact firstBad_none ok'
    have f7 := fault7 s1 s2 s3 s4 s5 s6
    rw [hn] at f7
    repeat walk_at "s"
    refine ⟨x, _, rfl, hR6, fun H7 S7 => ?_⟩
    repeat walk_at "s"
    refine must_go (fun d1 => ?_) (fun d1 => ?_)
    · have d1 := of_decide_eq_true d1
      rw [if_neg (by omega)] at f7
      repeat walk_at "s"
      exact k0 f7 H7 x (S06.trans S7) (hR6.same S7)
    · have d1 := of_decide_eq_false d1
      rw [if_pos (by omega)] at f7
      exact fun d hd => kf 7 0 f7 H7 d (S06.trans S7) hd
end
end Rt
set_option Elab.async false
set_option linter.all false
set_option maxRecDepth 100000
set_option maxHeartbeats 4000000
namespace Rt
open PySem PySem.Spec PyProof.Rows L2
open C8 (Cal Met Mak pe_c pe_mk pe_mt pe_mt0 pe_gc)
local macro_rules | `(tactic| walk_at "bd") => `(tactic| first
  | assumption | exact Bd.sub (by walk_at "bd") (by walk_at "bd") | exact Bd.add (by walk_at "bd") (by walk_at "bd") | exact Bd.mul (by walk_at "bd") (by walk_at "bd") | exact Bd.neg (by walk_at "bd") | exact Bd.lit (by decide))
local macro_rules | `(tactic| walk_at "r") => `(tactic| with_reducible first
  | refine r_seq ?_ | refine r_ret ?_ | refine r_asg ?_ | refine r_drop ?_ | refine r_op ?_ | refine r_un ?_ | refine r_c ?_ | refine r_cons ?_ | refine r_nil ?_ | refine r_i0 ?_ | refine r_U ?_ | refine r_name ?_ | refine r_if ?_ | refine r_test ?_ | refine r_tB ?_ | refine r_bl ?_
  | refine r_call ?_ | refine r_meth ?_ | refine r_fld ?_ | refine r_tup ?_ | refine r_lst ?_ | refine r_cb ?_ | refine r_andV ?_ | refine r_orV ?_ | refine r_notV ?_ | refine r_and ?_ | refine r_or ?_ | refine r_not ?_ | refine r_eqI ?_ | refine r_neI ?_ | refine r_eqB ?_ | refine r_neB ?_
  | refine r_next ?_ | refine r_par ?_ | refine r_lc ?_ | refine r_yes ?_ | refine r_iList ?_ | refine r_iRng1 ?_ | refine r_lstRg ?_ | refine r_rg1 ?_ | refine r_gcons ?_ | refine r_gnil ?_ | refine r_var (by with_unfolding_all rfl) ?_)
local macro_rules | `(tactic| walk_at "s") => `(tactic| first
  | walk_at "r" | (with_reducible refine r_itT rfl ?_) | (with_reducible refine r_itF rfl ?_) | (with_reducible refine r_ixT (by assumption) (by with_unfolding_all rfl) ?_) | ((with_reducible refine r_iM ?_ ?_); exact bd_mul (by walk_at "bd") (by walk_at "bd") (by decide)) | (with_reducible refine r_gtup (by assumption) (by with_unfolding_all rfl) ?_) | refine RoomAt.meth (by assumption) ?_)
local macro_rules | `(tactic| walk_at "d") => `(tactic| try dsimp only [cxOf, Cx.nox, Cx.wish])

local macro_rules | `(tactic| walk_at "s") => `(tactic| with_reducible first
  | refine r_sl ?_ | refine r_po0 ?_ | refine r_po1 ?_ | refine r_for ?_ | refine r_bm ?_ | refine r_make ?_ | refine r_sfld ?_ | refine r_inl ?_)

local macro_rules | `(tactic| walk_at "s") => `(tactic| with_reducible first
  | refine r_callS ?_ | refine r_methE ?_ | refine r_iRng3 ?_ | refine r_mkO ?_)

/-- a loop over enumerate of a list -/
theorem for_enumL {K : PySem.W.Frag} {a : Addr} {xs : List V} {g : TG} {tb : TS} {D : Ends} {σ : L2.St} {H : Hp} (Pv : Nat → L2.St → Hp → Prop) (h0 : Pv 0 σ H) (hq : ∀ i σ H, Pv i σ H → SqL K H a xs)
    (hs : ∀ (i : Nat) (x : V) (T : Addr) (σ : L2.St) (H : Hp), xs[i]? = some x → Pv i σ H → H T = none → g (.ref T) σ (upd H T (.tup [.int (i : Nat), x])) fun σ2 H2 => tb { D with nx := Pv (i + 1), ct := Pv (i + 1), bk := D.nx } σ2 H2) (hd : ∀ σ H, Pv xs.length σ H → D.nx σ H) :
    ∃ W : Nat → Nat → L2.St → Hp → Prop, (∃ m, W 0 m σ H) ∧ ∀ i m σ H, W i m σ H →
      ((Ite K a).stop i H ∧ D.nx σ H) ∨ ((Ite K a).go i H ∧ ∃ N : L2.St → Hp → Prop, (∀ σ' H', N σ' H' → ∃ m', m' < m ∧ W (i + 1) m' σ' H') ∧ ∀ v H', (Ite K a).yld i H v H' → g v σ H' fun σ2 H2 => tb { D with nx := N, ct := N, bk := D.nx } σ2 H2) := by
  refine ⟨fun i m σ H => m = xs.length - i ∧ i ≤ xs.length ∧ Pv i σ H, ⟨xs.length, rfl, Nat.zero_le _, h0⟩, ?_⟩
  rintro i m σ H ⟨rfl, hi, p⟩
  have q := hq i σ H p
  by_cases hlt : i < xs.length
  · have hx : xs[i]? = some xs[i] := List.getElem?_eq_getElem hlt
    refine .inr ⟨⟨xs, _, q, hx⟩, Pv (i + 1), fun σ' H' p' => ⟨xs.length - (i + 1), by omega, rfl, hlt, p'⟩, fun v H' y => ?_⟩
    obtain ⟨T, x', rfl, hT, rfl, f1⟩ := y
    exact hs i x' T σ H (f1 xs q) p hT
  · have e : i = xs.length := by omega
    subst e
    exact .inl ⟨⟨xs, q, Nat.le_refl _⟩, hd σ H p⟩
theorem r_enum {K : PySem.W.Frag} {ta : TA} {σ : L2.St} {H : Hp} {R : It → Hp → Prop} (h : ta σ H fun vs H1 => ∃ a xs, vs = [.ref a] ∧ SqL K H1 a xs ∧ R (Ite K a) H1) : iEnum K ta σ H R := h
theorem r_bits {to : TE} {σ : L2.St} {H : Hp} {Q : VK} (h : to σ H fun x H1 => ∃ i, x = .int i ∧ Q (.int (Builtin.Int.intBits i : Nat)) H1) : tBits to σ H Q := h
theorem bits_lt (n : Nat) : n < 2 ^ Builtin.Int.intBits (n : Int) := by
  unfold Builtin.Int.intBits
  by_cases h : n = 0
  · subst h
    decide
  · rw [if_neg (by simpa using h)]
    show n < 2 ^ (n.log2 + 1)
    exact Nat.lt_log2_self
theorem bits_le {n b : Nat} (h : n < 2 ^ b) : Builtin.Int.intBits (n : Int) ≤ b := by
  unfold Builtin.Int.intBits
  by_cases h0 : n = 0
  · subst h0
    simp
  · rw [if_neg (by simpa using h0)]
    show n.log2 + 1 ≤ b
    have := (Nat.log2_lt h0).mpr h
    omega
theorem four_pow {a b : Nat} (h : a + 2 ≤ b) : 4 * 2 ^ a ≤ 2 ^ b := by
  have e : 4 * 2 ^ a = 2 ^ (a + 2) := by rw [Nat.pow_succ, Nat.pow_succ]; omega
  rw [e]
  exact Nat.pow_le_pow_right (by decide) h
theorem divW {i : Int} {r b : Nat} (h0 : 0 < r) (h : r < 2 ^ b) (hb : b ≤ 8900) : CDivW i (r : Int) := by
  refine ⟨by omega, ?_⟩
  have : r.log2 < b := (Nat.log2_lt (by omega)).mpr h
  show r.log2 < 9000
  omega
section
variable {P : Program} {w : World} {K : PySem.W.Frag} {mg : Str → Option Value} {base : Heap}
def spBook (K : PySem.W.Frag) : Sp := fun vs H Q _ => ∃ (l : Addr) (book : List Int), vs = [.ref l] ∧ SqL K H l (book.map V.int) ∧ ∀ H', Same H H' → Q (.int (iBook book)) H'
theorem ok_book_fault (T : Tx K mg base) : Cal P w K mg base 1 "book_fault" (spBook K) [] := by
  refine mkC T.f_book_fault T.g_book_fault sc_book_fault (fun _ _ _ _ _ _ us hl => match us, hl with | [_], _ => rfl) (fun vs H Q E h => ?_) (fun f cdv A outer s H vs Q E hr h => ⟨_, (pss_cons (ps_if (pt_cmpR op_ne (pe_callB call_len_seq (by rfl) T.n_len PySem.boot_len (pa_cons (pv 0) pa_nil)) (pe_gc rfl T.c_MANY) (nomark _)) (pss_one (ps_ret (pe_callB call_len_seq (by rfl) T.n_len PySem.boot_len (pa_cons (pv 0) pa_nil)))) pss_nil)
      (pss_cons (ps_for PassesOwn.never rfl (pi_enum (by rfl) T.n_enumerate (pa_cons (pv 0) pa_nil)) (pg_tup rfl (pgs_cons (pg_name (i := 1) sc_book_fault.nd rfl (Or.inl rfl)) (pgs_cons (pg_name (i := 2) sc_book_fault.nd rfl (Or.inl rfl)) pgs_nil))) (pss_one (ps_if (pt_cmpR op_gt (pv 2) (pe_gc rfl T.c_PART) (nomark _)) (pss_one (ps_ret (pv 1))) pss_nil)))
      (pss_one (ps_ret (pe_un un_neg pe_int))))), ?_⟩)
  · obtain ⟨l, book, rfl, _⟩ := h
    rfl
  · obtain ⟨l, book, rfl, hl, k⟩ := h
    walk_at "d"
    repeat walk_at "s"
    refine ⟨l, _, rfl, .inl hl, ?_⟩
    rw [List.length_map]
    repeat walk_at "s"
    refine r_iteB (fun c => ?_) fun c => ?_
    · have c' : book.length ≠ 36 := by
        intro z
        rw [z] at c
        simp at c
      repeat walk_at "s"
      refine ⟨l, _, rfl, .inl hl, ?_⟩
      rw [List.length_map]
      have k1 := k _ (Same.refl H)
      unfold iBook at k1
      rw [if_pos c'] at k1
      exact k1
    · have c' : book.length = 36 := by
        by_cases z : book.length = 36
        · exact z
        · have : ¬ ((book.length : Nat) : Int) = 36 := by omega
          simp [this] at c
      repeat walk_at "s"
      refine r_enum ?_
      repeat walk_at "s"
      refine ⟨l, _, rfl, hl, ?_⟩
      have eb : iBook book = match book.findIdx? fun x => decide (32768 < x) with | some i => (i : Int) | none => -1 := by
        unfold iBook
        rw [if_neg (by omega)]
        all_goals (cases book.findIdx? (fun x => decide (32768 < x)) <;> rfl)
      refine for_enumL (xs := book.map V.int) (fun i σ H' => ∃ x1 x2 : Option V, σ = [some (.ref l), x1, x2] ∧ Same H H' ∧ ∀ j v, j < i → book[j]? = some v → ¬ 32768 < v) ⟨_, _, rfl, Same.refl H, fun j v hj => absurd hj (Nat.not_lt_zero _)⟩ (fun i σ H' z => ?_) (fun i x T σ H' hx z hT => ?_) (fun σ H' z => ?_)
      · obtain ⟨x1, x2, rfl, S, _⟩ := z
        exact S.lst hl
      · obtain ⟨x1, x2, rfl, S, ok⟩ := z
        rw [List.getElem?_map] at hx
        cases e : book[i]? with
        | none => rw [e] at hx; cases hx
        | some v =>
        rw [e] at hx
        cases hx
        have S1 := S.trans (same_new (o := .tup [V.int (i : Nat), V.int v]) hT)
        refine r_gtup (SqT.of upd_same) rfl ?_
        generalize upd H' T (.tup [V.int (i : Nat), V.int v]) = H1 at *
        repeat walk_at "s"
        refine r_iteB (fun c => ?_) fun c => ?_
        · repeat walk_at "s"
          have k1 := k _ S1
          rw [eb] at k1
          have : book.findIdx? (fun x => decide (32768 < x)) = some i := by
            rw [List.findIdx?_eq_some_iff_getElem]
            obtain ⟨hi, ei⟩ := List.getElem?_eq_some_iff.mp e
            refine ⟨hi, by rw [ei]; exact c, fun j hj => ?_⟩
            have := ok j _ hj (List.getElem?_eq_getElem (by omega))
            simpa using this
          rw [this] at k1
          exact k1
        · repeat walk_at "s"
          refine ⟨_, _, rfl, S1, fun j v' hj e' => ?_⟩
          by_cases q : j < i
          · exact ok j v' q e'
          · have : j = i := by omega
            subst this
            rw [e] at e'
            cases e'
            exact of_decide_eq_false c
      · obtain ⟨x1, x2, rfl, S, ok⟩ := z
        rw [List.length_map] at ok
        repeat walk_at "s"
        have k1 := k _ S
        rw [eb] at k1
        have : book.findIdx? (fun x => decide (32768 < x)) = none := by
          rw [List.findIdx?_eq_none_iff]
          intro x hx
          obtain ⟨j, hj⟩ := List.mem_iff_getElem?.mp hx
          have := ok j x (List.getElem?_eq_some_iff.mp hj).1 hj
          simpa using this
        rw [this] at k1
        exact k1
def spRoot : Sp := fun vs H Q _ => ∃ n : Nat, vs = [.int (n : Int)] ∧ n < 2 ^ 16000 ∧ Q (.int (Eh.root n : Nat)) H
theorem ok_whole_root (T : Tx K mg base) : Cal P w K mg base 1 "whole_root" spRoot [] := by
  refine mkC T.f_whole_root T.g_whole_root sc_whole_root (fun _ _ _ _ _ _ us hl => match us, hl with | [_], _ => rfl) (fun vs H Q E h => ?_) (fun f cdv A outer s H vs Q E hr h => ⟨_, (pss_cons (ps_if (pt_cmpR op_eq (pv 0) pe_int (nomark _)) (pss_one (ps_ret pe_int)) pss_nil)
      (pss_cons (ps_set (i := 1) sc_whole_root.nd rfl (Or.inl rfl) (pe_op op_shlW pe_int (pe_op op_fdiv (pe_op op_add (pe_bits (pv 0)) pe_int) pe_int)))
      (pss_cons (ps_set (i := 2) sc_whole_root.nd rfl (Or.inl rfl) (pe_op op_fdiv (pe_op op_add (pv 1) (pe_op op_fdivW (pv 0) (pv 1))) pe_int))
      (pss_cons (ps_while PassesOwn.never (pt_cmpR op_lt (pv 2) (pv 1) (nomark _)) (pss_cons (ps_set (i := 1) sc_whole_root.nd rfl (Or.inl rfl) (pv 2))
      (pss_one (ps_set (i := 2) sc_whole_root.nd rfl (Or.inl rfl) (pe_op op_fdiv (pe_op op_add (pv 1) (pe_op op_fdivW (pv 0) (pv 1))) pe_int)))))
      (pss_one (ps_ret (pv 1))))))), ?_⟩)
  · obtain ⟨n, rfl, _⟩ := h
    rfl
  · obtain ⟨n, rfl, big, k⟩ := h
    walk_at "d"
    repeat walk_at "s"
    refine r_iteB (fun c => ?_) fun c => ?_
    · have c := of_decide_eq_true c
      have : n = 0 := by omega
      subst this
      repeat walk_at "s"
      rw [root_uniq (n := 0) (r := 0) (by decide) (by decide)] at k
      exact k
    · have c := of_decide_eq_false c
      have n0 : 0 < n := by omega
      repeat walk_at "s"
      refine r_bits ?_
      repeat walk_at "s"
      have b1 := bits_lt n
      have b2 := bits_le big
      generalize Builtin.Int.intBits (n : Int) = b at *
      refine r_iC (C := CDiv) ⟨by decide, by decide⟩ ?_
      rw [show ((b : Int) + 1) / 2 = (((b + 1) / 2 : Nat) : Int) by omega]
      refine r_iC (C := CShl) ⟨by omega, ?_⟩ ?_
      · show ((Builtin.Int.intBits 1 : Nat) : Int) + _ ≤ _
        rw [show Builtin.Int.intBits 1 = 1 by decide]
        omega
      rw [Int.toNat_natCast, Int.one_mul, show (2 : Int) ^ ((b + 1) / 2) = ((2 ^ ((b + 1) / 2) : Nat) : Int) by simp]
      have g0 : 0 < 2 ^ ((b + 1) / 2) := Nat.pow_pos (by decide)
      have g1 : 2 ^ ((b + 1) / 2) < 2 ^ 8001 := Nat.pow_lt_pow_right (by decide) (by omega)
      have g2 : n < 2 ^ ((b + 1) / 2) * 2 ^ ((b + 1) / 2) := by
        rw [← Nat.pow_add]
        exact Nat.lt_of_lt_of_le b1 (Nat.pow_le_pow_right (by decide) (by omega))
      obtain ⟨h1, h2⟩ := root_spec n
      generalize Eh.root n = r at *
      have g3 : r < 2 ^ ((b + 1) / 2) := by
        refine Nat.lt_of_not_le fun z => ?_
        have := sq_mono z
        omega
      generalize 2 ^ ((b + 1) / 2) = R0 at *
      have cast : ∀ R : Nat, ((R : Int) + (n : Int) / (R : Int)) / 2 = (((R + n / R) / 2 : Nat) : Int) := fun R => by
        rw [← Int.natCast_ediv, ← Int.natCast_add]
        exact (Int.natCast_ediv _ 2).symm
      have div2 : ∀ x : Int, CDiv x 2 := fun x => ⟨by decide, by decide⟩
      repeat walk_at "s"
      refine r_iC (divW g0 g1 (by decide)) ?_
      repeat walk_at "s"
      refine r_iC (div2 _) ?_
      rw [cast]
      repeat walk_at "s"
      refine ⟨fun m σ' H' => ∃ R : Nat, σ' = [some (.int (n : Int)), some (.int (R : Int)), some (.int (((R + n / R) / 2 : Nat) : Int))] ∧ H' = H ∧ m = R ∧ r ≤ R ∧ 0 < R ∧ R < 2 ^ 8001, ⟨R0, R0, rfl, rfl, rfl, Nat.le_of_lt g3, g0, g1⟩, ?_⟩
      rintro m σ' H' ⟨R, rfl, rfl, em, rR, R0', R1⟩
      have ge := newton_ge h1 R0'
      repeat walk_at "s"
      refine r_iteB (fun c => ?_) fun c => ?_
      · have c := of_decide_eq_true c
        have lt : (R + n / R) / 2 < R := by omega
        have r0 : 0 < r := by
          refine Nat.pos_of_ne_zero fun z => ?_
          rw [z] at h2
          omega
        generalize hB : (R + n / R) / 2 = B at *
        refine ⟨fun σ2 H2 => σ2 = [some (.int (n : Int)), some (.int (B : Int)), some (.int (((B + n / B) / 2 : Nat) : Int))] ∧ H2 = H', fun σ2 H2 e => ⟨B, by rw [em]; exact lt, B, e.1, e.2, rfl, ge, by omega, by omega⟩, ?_⟩
        repeat walk_at "s"
        refine r_iC (divW (b := 8001) (by omega) (by omega) (by decide)) ?_
        repeat walk_at "s"
        refine r_iC (div2 _) ?_
        rw [cast]
        repeat walk_at "s"
        exact ⟨rfl, rfl⟩
      · have c := of_decide_eq_false c
        have e : R = r := by
          refine Nat.le_antisymm (Nat.le_of_not_lt fun z => ?_) rR
          have := newton_lt h2 z
          omega
        subst e
        repeat walk_at "s"
        exact k
def spNear : Sp := fun vs H Q _ => ∃ t b : Nat, vs = [.int (t : Int), .int (b : Int)] ∧ 0 < b ∧ Bd 15000 (t : Int) ∧ Bd 8000 (b : Int) ∧ Q (.int (iNear t b : Nat)) H
theorem ok_nearest_root (T : Tx K mg base) : Cal P w K mg base 2 "nearest_root" spNear [] := by
  refine mkC T.f_nearest_root T.g_nearest_root sc_nearest_root (fun _ _ _ _ _ _ us hl => match us, hl with | [_, _], _ => rfl) (fun vs H Q E h => ?_) (fun f cdv A outer s H vs Q E hr h => ⟨_, (pss_one (ps_ret (pe_op op_fdiv (pe_op op_add (pe_c (ok_whole_root T) hr (by decide) rfl (pa_cons (pe_op op_fdivW (pe_op op_mulW pe_int (pv 0)) (pv 1)) pa_nil)) pe_int) pe_int))), ?_⟩)
  · obtain ⟨t, b, rfl, _⟩ := h
    rfl
  · obtain ⟨t, b, rfl, b0, tb, bb, k⟩ := h
    walk_at "d"
    repeat walk_at "s"
    refine r_iC (divW b0 bb.h (by decide)) ?_
    have e : 4 * (t : Int) / (b : Int) = ((4 * t / b : Nat) : Int) := by
      rw [Int.natCast_ediv]
      rfl
    rw [e]
    refine ⟨_, rfl, Nat.lt_of_le_of_lt (Nat.div_le_self _ _) ?_, ?_⟩
    · exact Nat.lt_of_lt_of_le (Nat.mul_lt_mul_of_pos_left tb.h (by decide)) (four_pow (by decide))
    · repeat walk_at "s"
      refine r_iC (C := CDiv) ⟨by decide, by decide⟩ ?_
      unfold iNear at k
      have e2 : (((Eh.root (4 * t / b) : Nat) : Int) + 1) / 2 = (((Eh.root (4 * t / b) + 1) / 2 : Nat) : Int) := by omega
      rw [e2]
      exact k
def spDelay : Sp := fun vs H Q _ => ∃ s r v : Nat, vs = [.int (s : Int), .int (r : Int), .int (v : Int)] ∧ 0 < v ∧ Bd 100 (s : Int) ∧ Bd 100 (r : Int) ∧ Bd 100 (v : Int) ∧ Q (.int (iDelay s r v : Nat)) H
theorem ok_delay_of (T : Tx K mg base) : Cal P w K mg base 3 "delay_of" spDelay [] := by
  refine mkC T.f_delay_of T.g_delay_of sc_delay_of (fun _ _ _ _ _ _ us hl => match us, hl with | [_, _, _], _ => rfl) (fun vs H Q E h => ?_) (fun f cdv A outer s H vs Q E hr h => ⟨_, (pss_one (ps_ret (pe_c (ok_nearest_root T) hr (by decide) rfl (pa_cons (pe_op op_mulW (pe_op op_mulW (pv 0) (pv 1)) (pv 1)) (pa_cons (pe_op op_mulW (pv 2) (pv 2)) pa_nil))))), ?_⟩)
  · obtain ⟨s, r, v, rfl, _⟩ := h
    rfl
  · obtain ⟨s', r, v, rfl, v0, b1, b2, b3, k⟩ := h
    walk_at "d"
    repeat walk_at "s"
    refine ⟨s' * r * r, v * v, by simp, Nat.mul_pos v0 v0, ?_, ?_, k⟩
    · rw [Int.natCast_mul, Int.natCast_mul]
      exact (Bd.mul (Bd.mul b1 b2) b2).mono (by decide)
    · rw [Int.natCast_mul]
      exact (Bd.mul b3 b3).mono (by decide)
end
end Rt
set_option Elab.async false
set_option linter.all false
set_option maxRecDepth 100000
set_option maxHeartbeats 4000000
namespace Rt
open PySem PySem.Spec PyProof.Rows L2
open C8 (Cal Met Mak pe_c pe_mk pe_mt pe_mt0 pe_gc)
local macro_rules | `(tactic| walk_at "bd") => `(tactic| first
  | assumption | exact Bd.sub (by walk_at "bd") (by walk_at "bd") | exact Bd.add (by walk_at "bd") (by walk_at "bd") | exact Bd.mul (by walk_at "bd") (by walk_at "bd") | exact Bd.neg (by walk_at "bd") | exact Bd.lit (by decide))
local macro_rules | `(tactic| walk_at "r") => `(tactic| with_reducible first
  | refine r_seq ?_ | refine r_ret ?_ | refine r_asg ?_ | refine r_drop ?_ | refine r_op ?_ | refine r_un ?_ | refine r_c ?_ | refine r_cons ?_ | refine r_nil ?_ | refine r_i0 ?_ | refine r_U ?_ | refine r_name ?_ | refine r_if ?_ | refine r_test ?_ | refine r_tB ?_ | refine r_bl ?_
  | refine r_call ?_ | refine r_meth ?_ | refine r_fld ?_ | refine r_tup ?_ | refine r_lst ?_ | refine r_cb ?_ | refine r_andV ?_ | refine r_orV ?_ | refine r_notV ?_ | refine r_and ?_ | refine r_or ?_ | refine r_not ?_ | refine r_eqI ?_ | refine r_neI ?_ | refine r_eqB ?_ | refine r_neB ?_
  | refine r_next ?_ | refine r_par ?_ | refine r_lc ?_ | refine r_yes ?_ | refine r_iList ?_ | refine r_iRng1 ?_ | refine r_lstRg ?_ | refine r_rg1 ?_ | refine r_gcons ?_ | refine r_gnil ?_ | refine r_var (by with_unfolding_all rfl) ?_)
local macro_rules | `(tactic| walk_at "s") => `(tactic| first
  | walk_at "r" | (with_reducible refine r_itT rfl ?_) | (with_reducible refine r_itF rfl ?_) | (with_reducible refine r_ixT (by assumption) (by with_unfolding_all rfl) ?_) | ((with_reducible refine r_iM ?_ ?_); exact bd_mul (by walk_at "bd") (by walk_at "bd") (by decide)) | (with_reducible refine r_gtup (by assumption) (by with_unfolding_all rfl) ?_) | refine RoomAt.meth (by assumption) ?_)
local macro_rules | `(tactic| walk_at "d") => `(tactic| try dsimp only [cxOf, Cx.nox, Cx.wish])

local macro_rules | `(tactic| walk_at "s") => `(tactic| with_reducible first
  | refine r_sl ?_ | refine r_po0 ?_ | refine r_po1 ?_ | refine r_for ?_ | refine r_bm ?_ | refine r_make ?_ | refine r_sfld ?_ | refine r_inl ?_)

local macro_rules | `(tactic| walk_at "s") => `(tactic| with_reducible first
  | refine r_callS ?_ | refine r_methE ?_ | refine r_iRng3 ?_ | refine r_mkO ?_)

theorem stf_at {r : Eh.Room} {w : Nat} (h : w < r.n + 2) : ((stf r).map V.int)[w]? = some (.int (stuffN r w : Nat)) := by
  unfold stf stuffN
  rw [List.map_append, List.map_map]
  by_cases h1 : w < r.n
  · rw [if_pos h1, List.getElem?_append_left (by rw [List.length_map]; exact h1), List.getElem?_map, List.getD_eq_getElem?_getD, List.getElem?_eq_getElem h1]
    rfl
  · rw [if_neg h1, List.getElem?_append_right (by rw [List.length_map]; exact Nat.le_of_not_lt h1), List.length_map]
    by_cases h2 : w = r.n
    · rw [if_pos h2, h2]
      show _[r.n - r.n]? = _
      rw [Nat.sub_self]
      rfl
    · rw [if_neg h2]
      show _[w - r.n]? = _
      rw [show w - r.n = 1 by omega]
      rfl
theorem nat_at {l : List Nat} {z : Int} {i : Nat} (e : z = (i : Int)) (h : i < l.length) : atI (natsV l) z = some (.int ((l.getD i 0 : Nat) : Int)) := by
  refine at_of e ?_
  unfold natsV
  rw [List.getElem?_map, List.getD_eq_getElem?_getD, List.getElem?_eq_getElem h]
  rfl
theorem bdN {n b : Nat} (h : n < 2 ^ b) : Bd b (n : Int) := ⟨h⟩
theorem bits_of {n b : Nat} (h : Bd b (n : Int)) : Builtin.Int.intBits (n : Int) ≤ b := bits_le h.h
section
variable {P : Program} {w : World} {K : PySem.W.Frag} {mg : Str → Option Value} {base : Heap}
structure GainOk (r : Eh.Room) (book : List Nat) (band square : Nat) (walls : List Nat) : Prop where
  b36 : book.length = 36
  band3 : band ≤ 3
  few : ∀ x ∈ book, x ≤ 32768
  st : ∀ w, w < r.n + 2 → stuffN r w ≤ 7
  w4 : walls.length ≤ 4
  wn : ∀ w ∈ walls, w < r.n + 2
  sq : square < 2 ^ 33
theorem pow_bd {b : Nat} (h : b ≤ 32768) : ∀ k, b ^ k ≤ 2 ^ (15 * k)
  | 0 => by simp
  | k + 1 => by
    have ih := pow_bd h k
    rw [Nat.pow_succ, show 15 * (k + 1) = 15 * k + 15 by omega, Nat.pow_add]
    exact Nat.mul_le_mul ih h
theorem top_bd {r : Eh.Room} {book : List Nat} {band : Nat} (few : ∀ x ∈ book, x ≤ 32768) (walls : List Nat) : topW r book band walls ≤ 2 ^ (15 * walls.length) := by
  have key : ∀ (l : List Nat) (t m : Nat), t ≤ 2 ^ (15 * m) → l.foldl (fun t w => t * book.getD (stuffN r w * 4 + band) 0) t ≤ 2 ^ (15 * (m + l.length)) := by
    intro l
    induction l with
    | nil => intro t m h; exact h
    | cons w l ih =>
      intro t m h
      rw [List.foldl_cons, List.length_cons, show m + (l.length + 1) = (m + 1) + l.length by omega]
      refine ih _ _ ?_
      rw [show 15 * (m + 1) = 15 * m + 15 by omega, Nat.pow_add]
      refine Nat.mul_le_mul h ?_
      rw [List.getD_eq_getElem?_getD]
      cases e : book[stuffN r w * 4 + band]? with
      | none => exact Nat.zero_le _
      | some x => exact few x (List.mem_of_getElem? e)
  have := key walls 1 0 (by decide)
  rw [Nat.zero_add] at this
  exact this
theorem far_bd {s : Nat} (h : s < 2 ^ 33) : iFar s ≤ 128 := by
  unfold iFar
  have h1 : max 1 s < 2 ^ (2 * 17) := by
    have : (2 : Nat) ^ (2 * 17) = 17179869184 := by decide
    have : (2 : Nat) ^ 33 = 8589934592 := by decide
    omega
  have h2 := root_le h1
  have : (2 : Nat) ^ 17 = 131072 := by decide
  omega
def spGain (K : PySem.W.Frag) : Sp := fun vs H Q _ => ∃ (a l p dx lw : Addr) (r : Eh.Room) (book : List Nat) (band square : Nat) (walls : List Nat), vs = [.ref a, .ref l, .int (band : Int), .ref p] ∧ RoomAt K H a r ∧ SqL K H l (natsV book) ∧
  H p = some (.ins (He.ga K "Path") dx (pathF (square : Int) lw)) ∧ H lw = some (.lst (natsV walls)) ∧ GainOk r book band square walls ∧ Q (.int (iGain r book band square walls : Nat)) H
theorem ok_gain_of (T : Tx K mg base) : Cal P w K mg base 3 "gain_of" (spGain K) [] := by
  refine mkC T.f_gain_of T.g_gain_of sc_gain_of (fun _ _ _ _ _ _ us hl => match us, hl with | [_, _, _, _], _ => rfl) (fun vs H Q E h => ?_) (fun f cdv A outer s H vs Q E hr h => ⟨_, (pss_cons (ps_set (i := 4) sc_gain_of.nd rfl (Or.inl rfl) (pe_callB (call_max2 rfl) (by rfl) T.n_max (by decide +kernel) (pa_cons pe_int (pa_cons (pe_fld (pv 3) rfl) pa_nil))))
      (pss_cons (ps_set (i := 5) sc_gain_of.nd rfl (Or.inl rfl) (pe_op op_fdiv (pe_c (ok_whole_root T) hr (by decide) rfl (pa_cons (pv 4) pa_nil)) (pe_gc rfl T.c_STRETCH)))
      (pss_cons (ps_set (i := 6) sc_gain_of.nd rfl (Or.inl rfl) pe_int)
      (pss_cons (ps_for PassesOwn.never rfl (pi_list (pe_fld (pv 3) rfl)) (pg_name (i := 7) sc_gain_of.nd rfl (Or.inl rfl)) (pss_one (ps_set (i := 6) sc_gain_of.nd rfl (Or.inl rfl) (pe_op op_mulW (pv 6) (pe_ix (r := rIxL K) ix_list (pv 1) (pe_op op_add (pe_op op_mulW (pe_ix (r := rIxL K) ix_list (pe_fld (pv 0) rfl) (pv 7) (fun _ _ => rfl)) (pe_gc rfl T.c_BANDS)) (pv 2)) (fun _ _ => rfl))))))
      (pss_cons (ps_for PassesOwn.never rfl (pi_range1 (by rfl) T.n_range (pa_cons (pv 5) pa_nil)) (pg_name (i := 8) sc_gain_of.nd rfl (Or.inl rfl)) (pss_one (ps_set (i := 6) sc_gain_of.nd rfl (Or.inl rfl) (pe_op op_mulW (pv 6) (pe_ix (r := rIxL K) ix_list (pv 1) (pe_op op_add (pe_gc rfl T.c_AIR) (pv 2)) (fun _ _ => rfl))))))
      (pss_cons (ps_set (i := 9) sc_gain_of.nd rfl (Or.inl rfl) (pe_op op_mulW (pe_gc rfl T.c_PART_BITS) (pe_op op_add (pe_callB call_len_seq (by rfl) T.n_len PySem.boot_len (pa_cons (pe_fld (pv 3) rfl) pa_nil)) (pv 5))))
      (pss_one (ps_ret (pe_c (ok_nearest_root T) hr (by decide) rfl (pa_cons (pe_op op_shlW (pe_op op_mulW (pv 6) (pv 6)) (pe_op op_mulW pe_int (pe_gc rfl T.c_GAIN_BITS))) (pa_cons (pe_op op_shlW (pv 4) (pe_op op_mulW pe_int (pv 9))) pa_nil))))))))))), ?_⟩)
  · obtain ⟨a, l, p, dx, lw, r, book, band, square, walls, rfl, _⟩ := h
    rfl
  · obtain ⟨a, l, p, dx, lw, r, book, band, square, walls, rfl, hR, hl, hp, hlw, ok, k⟩ := h
    obtain ⟨b36, band3, few, st, w4, wn, sq⟩ := ok
    obtain ⟨_, rdx, rac, ras, cps, h1, h2, h3, h4, h5⟩ := id hR
    have bk : ∀ i, book.getD i 0 ≤ 32768 := fun i => by
      rw [List.getD_eq_getElem?_getD]
      cases e : book[i]? with
      | none => exact Nat.zero_le _
      | some x => exact few x (List.mem_of_getElem? e)
    have bkB : ∀ i, Bd 16 ((book.getD i 0 : Nat) : Int) := fun i => bdN (Nat.lt_of_le_of_lt (bk i) (by decide))
    have bsq : Bd 34 ((max 1 square : Nat) : Int) := bdN (by
      have : (2 : Nat) ^ 33 = 8589934592 := by decide
      have : (2 : Nat) ^ 34 = 17179869184 := by decide
      omega)
    have bB : Bd 20 (band : Int) := bdN (Nat.lt_of_le_of_lt band3 (by decide))
    have fb := far_bd sq
    have tb := fun l => top_bd (r := r) (band := band) few l
    unfold iGain at k
    clear few sq
    walk_at "d"
    repeat walk_at "s"
    refine ⟨_, _, _, _, _, rfl, hp, T.k_Path, T.a_Path_square, lk_here, ?_⟩
    repeat walk_at "s"
    refine ⟨_, _, rfl, ?_⟩
    rw [show (if ((square : Int)) > 1 then (square : Int) else 1) = ((max 1 square : Nat) : Int) by split <;> omega]
    repeat walk_at "s"
    refine ⟨max 1 square, rfl, Nat.lt_of_lt_of_le bsq.h (Nat.pow_le_pow_right (by decide) (by decide)), ?_⟩
    repeat walk_at "s"
    refine r_iC (C := CDiv) ⟨by decide, by decide⟩ ?_
    rw [show ((Eh.root (max 1 square) : Nat) : Int) / 1024 = ((iFar square : Nat) : Int) from rfl]
    have S0 : 0 < max 1 square := by omega
    generalize max 1 square = S at *
    generalize iFar square = ft at *
    repeat walk_at "s"
    refine ⟨_, _, _, _, _, rfl, hp, T.k_Path, T.a_Path_walls, (lk_past (by decide +kernel)).trans lk_here, ?_⟩
    refine ⟨lw, rfl, ⟨_, SqL.of hlw⟩, ?_⟩
    refine for_list (xs := natsV walls) (fun i σ H' => ∃ x7 x8 x9 : Option V, σ = [some (.ref a), some (.ref l), some (.int (band : Int)), some (.ref p), some (.int (S : Int)), some (.int (ft : Int)), some (.int (topW r book band (walls.take i) : Nat)), x7, x8, x9] ∧ H' = H) ⟨_, _, _, rfl, rfl⟩ (fun i σ H' hi z => ?_) (fun i x σ H' hx z => ?_) (fun σ H' z => ?_)
    · obtain ⟨x7, x8, x9, rfl, rfl⟩ := z
      exact SqL.of hlw
    · obtain ⟨x7, x8, x9, rfl, rfl⟩ := z
      unfold natsV at hx
      rw [List.getElem?_map] at hx
      cases ew : walls[i]? with
      | none => rw [ew] at hx; cases hx
      | some wl =>
      rw [ew] at hx
      cases hx
      have hwl := wn wl (List.mem_of_getElem? ew)
      have hst := st wl hwl
      have tbi : Bd 61 ((topW r book band (walls.take i) : Nat) : Int) := bdN (Nat.lt_of_le_of_lt (tb _) (Nat.pow_lt_pow_right (by decide) (by rw [List.length_take]; omega)))
      have hstB : Bd 20 (stuffN r wl : Int) := bdN (Nat.lt_of_le_of_lt hst (by decide))
      repeat walk_at "s"
      refine ⟨_, _, _, _, _, rfl, h1, T.k_Room, T.a_Room_stuffs, (lk_past (by decide +kernel)).trans ((lk_past (by decide +kernel)).trans lk_here), ?_⟩
      repeat walk_at "s"
      refine r_ixL (SqL.of h5) (at_of (j := wl) rfl (stf_at hwl)) ?_
      repeat walk_at "s"
      refine r_ixL hl (nat_at (i := stuffN r wl * 4 + band) (by omega) (by omega)) ?_
      have bv := bkB (stuffN r wl * 4 + band)
      repeat walk_at "s"
      refine ⟨some (.int (wl : Int)), x8, x9, ?_, rfl⟩
      rw [take_more ew, topW_snoc, Int.natCast_mul]
      rfl
    · obtain ⟨x7, x8, x9, rfl, rfl⟩ := z
      rw [show (natsV walls).length = walls.length by unfold natsV; rw [List.length_map], List.take_length]
      have tb0 := tb walls
      generalize topW r book band walls = t0 at *
      repeat walk_at "s"
      refine ⟨_, rfl, by omega, by omega, ?_⟩
      rw [Int.toNat_natCast]
      have pb := pow_bd (bk (32 + band))
      have bv := bkB (32 + band)
      have gv : atI (natsV book) (32 + (band : Int)) = some (.int ((book.getD (32 + band) 0 : Nat) : Int)) := nat_at (by omega) (by omega)
      generalize book.getD (32 + band) 0 = v at *
      refine for_range (lo := 0) (n := ft) (fun i σ H2 => ∃ x7 x8 x9 : Option V, σ = [some (.ref a), some (.ref l), some (.int (band : Int)), some (.ref p), some (.int (S : Int)), some (.int (ft : Int)), some (.int ((t0 * v ^ i : Nat) : Int)), x7, x8, x9] ∧ H2 = H') ⟨x7, x8, x9, by rw [Nat.pow_zero, Nat.mul_one], rfl⟩ (fun i σ H2 hi z => ?_) (fun σ H2 z => ?_)
      · obtain ⟨x7, x8, x9, rfl, rfl⟩ := z
        have tbi : Bd 2000 ((t0 * v ^ i : Nat) : Int) := bdN (by
          have e1 := Nat.mul_le_mul tb0 (pb i)
          rw [← Nat.pow_add] at e1
          exact Nat.lt_of_le_of_lt e1 (Nat.pow_lt_pow_right (by decide) (by omega)))
        repeat walk_at "s"
        refine r_ixL hl gv ?_
        repeat walk_at "s"
        refine ⟨x7, some (.int (0 + (i : Int))), x9, ?_, rfl⟩
        rw [Nat.pow_succ, ← Nat.mul_assoc, Int.natCast_mul (t0 * v ^ i)]
        rfl
      · obtain ⟨x7, x8, x9, rfl, rfl⟩ := z
        have tbi : Bd 2000 ((t0 * v ^ ft : Nat) : Int) := bdN (by
          have e1 := Nat.mul_le_mul tb0 (pb ft)
          rw [← Nat.pow_add] at e1
          exact Nat.lt_of_le_of_lt e1 (Nat.pow_lt_pow_right (by decide) (by omega)))
        dsimp only at k
        generalize t0 * v ^ ft = top at *
        have fB : Bd 20 (ft : Int) := bdN (Nat.lt_of_le_of_lt fb (by decide))
        have wB : Bd 20 (walls.length : Int) := bdN (Nat.lt_of_le_of_lt w4 (by decide))
        have nl : (natsV walls).length = walls.length := by unfold natsV; rw [List.length_map]
        repeat walk_at "s"
        refine ⟨_, _, _, _, _, rfl, hp, T.k_Path, T.a_Path_walls, (lk_past (by decide +kernel)).trans lk_here, ?_⟩
        repeat walk_at "s"
        refine ⟨_, _, rfl, .inl (SqL.of hlw), ?_⟩
        rw [nl]
        generalize walls.length = wlen at *
        repeat walk_at "s"
        have e1 : (2 : Int) * 32 = ((64 : Nat) : Int) := by decide
        have e2 : (2 : Int) * (15 * ((wlen : Int) + (ft : Int))) = ((2 * (15 * (wlen + ft)) : Nat) : Int) := by omega
        have bt : Bd 4000 ((top * top : Nat) : Int) := by
          rw [Int.natCast_mul]
          exact (Bd.mul tbi tbi).mono (by decide)
        have btI := bits_of bt
        have bsI := bits_of bsq
        rw [e1, ← Int.natCast_mul top top]
        refine r_iC (C := CShl) ⟨by omega, by omega⟩ ?_
        rw [Int.toNat_natCast, show ((top * top : Nat) : Int) * 2 ^ 64 = ((top * top * 2 ^ 64 : Nat) : Int) by rw [Int.natCast_mul (top * top)]; rfl]
        repeat walk_at "s"
        rw [e2]
        refine r_iC (C := CShl) ⟨by omega, by omega⟩ ?_
        rw [Int.toNat_natCast, show (S : Int) * 2 ^ (2 * (15 * (wlen + ft))) = ((S * 2 ^ (2 * (15 * (wlen + ft))) : Nat) : Int) by rw [Int.natCast_mul, Int.natCast_pow]; rfl]
        repeat walk_at "s"
        refine ⟨_, _, rfl, Nat.mul_pos S0 (Nat.pow_pos (by decide)), ?_, ?_, k⟩
        · rw [Int.natCast_mul (top * top)]
          exact (Bd.mul bt (bdN (b := 65) (by decide))).mono (by decide)
        · rw [Int.natCast_mul]
          exact (Bd.mul bsq (bdN (b := 4001) (Nat.pow_lt_pow_right (by decide) (by omega)))).mono (by decide)
end
end Rt
set_option Elab.async false
set_option linter.all false
set_option maxRecDepth 100000
set_option maxHeartbeats 4000000
namespace Rt
open PySem PySem.Spec PyProof.Rows L2
/-! ### sorted(d), all keys ints, any number of them -/
def rSortedD : List V → Hp → VK → Prop := fun xs H Q => ∃ (a : Addr) (kvs : List (Key × V)) (ks : List Int), xs = [.ref a] ∧ H a = some (.dK kvs) ∧ kvs.map (·.1) = ks.map Sum.inl ∧
  ∀ (ys : List Int) (p : Addr), ys.Perm ks → ys.Pairwise (· ≤ ·) → H p = none → Q (.ref p) (upd H p (.lst (ys.map V.int)))
theorem cr_sortedD {X : Cx} (hcalm : X.calm = true) : CallR X (.builtin "sorted") rSortedD := by
  intro pins s σ H xs us Q I r q
  obtain ⟨a, kvs, ks, ex, hd, hks, q⟩ := q
  subst ex
  obtain ⟨u, eu, rx⟩ := vals1 r
  subst eu
  cases rx
  obtain ⟨z, lo, vs, rel, dd⟩ := dk_rd I.hok (.inl hd)
  obtain ⟨ep, hat⟩ := dd.dictAt
  have hkeys : vs.map (·.1) = ks.map Sum.inl := rel.keys.symm.trans hks
  have hl : vs.length = ks.length := by
    have e := congrArg List.length hkeys
    rw [List.length_map, List.length_map] at e
    exact e
  have hz : vs.length ≤ sizeLine := by rw [← rel.length]; exact z
  refine Calls.call_function_entry PyProof.Rows.kind_sorted PyProof.Rows.plain_sorted PyProof.Rows.entry_sorted (PyProof.Rows.args_sorted1 _) ?_
  unfold Builtin.«sorted»
  refine wpAny_bind (m := checkCount "sorted" 1 1 _) (wpAny_pure ?_)
  refine wpAny_bind (PySem.W.kdu_collect (A := X.A.in1) (PySem.W.kdl_dict (knd := mixKind X.prog X.w) (kvs := vs) (ep := ep) lo) (I.ok.hd hcalm) hat hz fun h' tk acc hk hacc => ?_)
  have hal : acc.toList.length = ks.length := by rw [Array.length_toList, hacc.1, hl]
  have hS : IntsAre acc.toList ks := ints_each hal fun j v e => by
    obtain ⟨k, x, e1, e2⟩ := hacc.2 j v (by rw [← Array.getElem?_toList]; exact e)
    have e3 : (vs.map (·.1))[j]? = some k := by rw [List.getElem?_map, e1]; rfl
    rw [hkeys, List.getElem?_map] at e3
    cases e4 : ks[j]? with
    | none => rw [e4] at e3; cases e3
    | some y =>
      rw [e4] at e3
      have e5 : Sum.inl y = k := Option.some.inj e3
      subst e5
      rcases keyIs_shape (show keyIs (Sum.inl y) v = true from e2) with ⟨i, t, ek, ev⟩ | ⟨z, t, ek, ev⟩
      · cases ek
        exact ⟨y, t, rfl, ev⟩
      · cases ek
  have I1 : Inv X pins σ H { s with heap := h', toks := tk } := I.kept hk
  have hal2 : acc.toList.length ≤ sizeLine := by rw [hal, ← hl]; exact hz
  refine wpAny_bind (wpAny_newList ?_ hal2)
  have hoL : (h'.push (seqObj "list" acc.toList.toArray 0)).get? h'.objs.size = some (seqObj "list" acc.toList.toArray 0) := Heap.get?_push_size _ rfl
  show wpAny _ _ _ _ _ { s with heap := h'.push (seqObj "list" acc.toList.toArray 0), toks := tk }
  refine wpAny_bind (wpAny_holding (wpAny_call_entry PyProof.Rows.slot_list_sort ⟨_, hoL, rfl⟩ PyProof.Rows.entry_list_sort
    (SrtO.list_sort_ord (s := { s with heap := h'.push (seqObj "list" acc.toList.toArray 0), toks := tk }) SrtO.swo_int hoL hal2 (fun h2 => SrtO.ints_sortable hS h2) fun out g1 g2 => ⟨_, rfl, ?_⟩) (PyProof.Rows.args_list_sort _)))
  obtain ⟨k1, k2, k3⟩ := SrtO.ints_out hS g1 g2
  obtain ⟨e', he'⟩ := PyProof.Rows.sortedHeap_at (vs := acc.toList) (out := out.toArray) hoL
  have hlen : ((out.map SrtO.iv).map V.int).length ≤ sizeLine := by
    rw [List.length_map, k2.length_eq, ← hal]
    exact hal2
  refine wpAny_pure ⟨_, rfl, .ref h'.objs.size, upd H h'.objs.size (.lst ((out.map SrtO.iv).map V.int)), I1.laid (t' := tk) (fun b u e => ?_) (Nat.le_refl _)
    (show ObjOk X.prog X.w _ _ _ (.lst ((out.map SrtO.iv).map V.int)) from ⟨hlen, out, e', vals_of_ints k1, he'⟩), rfl, q _ _ k2 k3 (I1.hok.fresh (Nat.le_refl _))⟩
  have hb : b < h'.objs.size := Heap.lt_size e
  rw [PyProof.Rows.sortedHeap_old (Nat.ne_of_lt hb) (by rw [size_push']; exact Nat.lt_succ_of_lt hb)]
  exact Heap.get?_push_of_some _ e
end Rt
set_option Elab.async false
set_option linter.all false
set_option maxRecDepth 100000
set_option maxHeartbeats 4000000
namespace Rt
open PySem PySem.Spec PyProof.Rows L2
open C8 (Cal Met Mak pe_c pe_mk pe_mt pe_mt0 pe_gc)
local macro_rules | `(tactic| walk_at "bd") => `(tactic| first
  | assumption | exact Bd.sub (by walk_at "bd") (by walk_at "bd") | exact Bd.add (by walk_at "bd") (by walk_at "bd") | exact Bd.mul (by walk_at "bd") (by walk_at "bd") | exact Bd.neg (by walk_at "bd") | exact Bd.lit (by decide))
local macro_rules | `(tactic| walk_at "r") => `(tactic| with_reducible first
  | refine r_seq ?_ | refine r_ret ?_ | refine r_asg ?_ | refine r_drop ?_ | refine r_op ?_ | refine r_un ?_ | refine r_c ?_ | refine r_cons ?_ | refine r_nil ?_ | refine r_i0 ?_ | refine r_U ?_ | refine r_name ?_ | refine r_if ?_ | refine r_test ?_ | refine r_tB ?_ | refine r_bl ?_
  | refine r_call ?_ | refine r_meth ?_ | refine r_fld ?_ | refine r_tup ?_ | refine r_lst ?_ | refine r_cb ?_ | refine r_andV ?_ | refine r_orV ?_ | refine r_notV ?_ | refine r_and ?_ | refine r_or ?_ | refine r_not ?_ | refine r_eqI ?_ | refine r_neI ?_ | refine r_eqB ?_ | refine r_neB ?_
  | refine r_next ?_ | refine r_par ?_ | refine r_lc ?_ | refine r_yes ?_ | refine r_iList ?_ | refine r_iRng1 ?_ | refine r_lstRg ?_ | refine r_rg1 ?_ | refine r_gcons ?_ | refine r_gnil ?_ | refine r_var (by with_unfolding_all rfl) ?_)
local macro_rules | `(tactic| walk_at "s") => `(tactic| first
  | walk_at "r" | (with_reducible refine r_itT rfl ?_) | (with_reducible refine r_itF rfl ?_) | (with_reducible refine r_ixT (by assumption) (by with_unfolding_all rfl) ?_) | ((with_reducible refine r_iM ?_ ?_); exact bd_mul (by walk_at "bd") (by walk_at "bd") (by decide)) | (with_reducible refine r_gtup (by assumption) (by with_unfolding_all rfl) ?_) | refine RoomAt.meth (by assumption) ?_)
local macro_rules | `(tactic| walk_at "d") => `(tactic| try dsimp only [cxOf, Cx.nox, Cx.wish])

local macro_rules | `(tactic| walk_at "s") => `(tactic| with_reducible first
  | refine r_sl ?_ | refine r_po0 ?_ | refine r_po1 ?_ | refine r_for ?_ | refine r_bm ?_ | refine r_make ?_ | refine r_sfld ?_ | refine r_inl ?_)

local macro_rules | `(tactic| walk_at "s") => `(tactic| with_reducible first
  | refine r_callS ?_ | refine r_methE ?_ | refine r_iRng3 ?_ | refine r_mkO ?_)

def dictV (ps : List (Nat × Nat)) : List (Key × V) := (keysN ps).map fun d : Nat => (Sum.inl (d : Int), V.int (sumG ps d : Nat))
theorem valV_map {f : Nat → V} : ∀ (ks : List Nat) (d : Nat), valV (ks.map fun k : Nat => ((Sum.inl (k : Int) : Key), f k)) (Sum.inl (d : Int)) = if d ∈ ks then some (f d) else none
  | [], d => by rw [if_neg (by simp)]; rfl
  | k :: ks, d => by
    rw [List.map_cons]
    by_cases e : k = d
    · subst e
      rw [valV_pos rfl, if_pos List.mem_cons_self]
    · rw [valV_neg (fun q => e (by have := Sum.inl.inj q; omega)), valV_map ks d]
      by_cases m : d ∈ ks
      · rw [if_pos m, if_pos (List.mem_cons_of_mem _ m)]
      · rw [if_neg m, if_neg (fun q => by
          rcases List.mem_cons.mp q with q | q
          · exact e q.symm
          · exact m q)]
theorem dictV_val {ps : List (Nat × Nat)} {d : Nat} : valV (dictV ps) (Sum.inl (d : Int)) = if d ∈ keysN ps then some (.int (sumG ps d : Nat)) else none := valV_map _ d
theorem dictV_put {ps : List (Nat × Nat)} {p : Nat × Nat} : putK (dictV ps) (Sum.inl (p.1 : Int)) (.int ((sumG ps p.1 : Nat) + (p.2 : Nat) : Int)) = dictV (ps ++ [p]) := by
  have es : ∀ d, d ≠ p.1 → sumG (ps ++ [p]) d = sumG ps d := fun d h => by rw [sumG_snoc, if_neg (fun e => h e.symm), Nat.add_zero]
  have e1 : sumG (ps ++ [p]) p.1 = sumG ps p.1 + p.2 := by rw [sumG_snoc, if_pos rfl]
  unfold putK
  rw [valV_any, dictV_val]
  unfold dictV
  rw [keysN_snoc]
  by_cases m : p.1 ∈ keysN ps
  · rw [if_pos m, if_pos (show (some (V.int (sumG ps p.1 : Nat))).isSome = true from rfl), if_pos m, List.map_map]
    refine List.map_congr_left fun d _ => ?_
    show (if (Sum.inl (d : Int) : Key) = Sum.inl (p.1 : Int) then _ else _) = _
    by_cases e : d = p.1
    · subst e
      rw [if_pos rfl, e1]
      rfl
    · rw [if_neg (fun q => e (by have := Sum.inl.inj q; omega)), es d e]
  · rw [if_neg m, if_neg (by decide), if_neg m, List.map_append]
    congr 1
    · refine List.map_congr_left fun d hd => ?_
      rw [es d fun e => m (e ▸ hd)]
    · rw [List.map_cons, List.map_nil]
      rw [e1]
      rfl
theorem keysN_len (ps : List (Nat × Nat)) : (keysN ps).length ≤ ps.length := by
  refine snoc_ind (P := fun ps => (keysN ps).length ≤ ps.length) (Nat.le_refl _) (fun l x ih => ?_) ps
  rw [keysN_snoc, List.length_append]
  split
  · exact Nat.le_trans ih (Nat.le_add_right _ _)
  · rw [List.length_append]
    exact Nat.add_le_add ih (Nat.le_refl _)
theorem r_dput {td ty tv : TE} {D : Ends} {σ : L2.St} {H : Hp} (h : tv σ H fun v H1 => td σ H1 fun x H2 => ty σ H2 fun y H3 => ∃ a H4, x = .ref a ∧ DPut H3 a y v H4 ∧ D.nx σ H4) : sDPut td ty tv D σ H := h
theorem r_dget2 {td ty tx : TE} {σ : L2.St} {H : Hp} {Q : VK} (h : td σ H fun x H1 => ∃ a, x = .ref a ∧ IsD H1 a ∧ ty σ H1 fun y H2 => tx σ H2 fun z H3 => ∃ o, DGet H3 a y o ∧ Q (o.getD z) H3) : tDGet2 td ty tx σ H Q := h
theorem r_dget {td ty : TE} {σ : L2.St} {H : Hp} {Q : VK} (h : td σ H fun x H1 => ty σ H1 fun y H2 => ∃ a v, x = .ref a ∧ DGet H2 a y (some v) ∧ Q v H2) : tDGet td ty σ H Q := h
/-- taps in the heap -/
structure TapsAt (K : PySem.W.Frag) (H : Hp) (l : Addr) (taps : List (Nat × Int)) : Prop where
  ex : ∃ ts : List Addr, H l = some (.lst (ts.map V.ref)) ∧ ts.length = taps.length ∧ ∀ (j : Nat) (t : Addr) (p : Nat × Int), ts[j]? = some t → taps[j]? = some p → SqT K H t [.int (p.1 : Int), .int p.2]
/-- paths with their delays in the heap -/
structure PairsAt (K : PySem.W.Frag) (H : Hp) (l : Addr) (ps : List (PathI × Nat)) : Prop where
  ex : ∃ ts : List Addr, H l = some (.lst (ts.map V.ref)) ∧ ts.length = ps.length ∧ ∀ (j : Nat) (t : Addr) (p : PathI × Nat), ts[j]? = some t → ps[j]? = some p → ∃ pa dx lw, SqT K H t [.ref pa, .int (p.2 : Int)] ∧ H pa = some (.ins (He.ga K "Path") dx (pathF p.1.square lw)) ∧ H lw = some (.lst (natsV p.1.walls))
def gainP (r : Eh.Room) (book : List Nat) (band : Nat) (p : PathI × Nat) : Nat × Nat := (p.2, iGain r book band p.1.square.toNat p.1.walls)
theorem near_le {t b c : Nat} (h : 4 * t / b < (2 * c) * (2 * c)) : iNear t b ≤ c := by
  unfold iNear
  have h1 := (root_spec (4 * t / b)).1
  have : Eh.root (4 * t / b) < 2 * c := by
    refine Nat.lt_of_not_le fun z => ?_
    have := sq_mono z
    omega
  omega
section
variable {P : Program} {w : World} {K : PySem.W.Frag} {mg : Str → Option Value} {base : Heap}
def spTaps (K : PySem.W.Frag) : Sp := fun vs H Q _ => ∃ (a l lp : Addr) (r : Eh.Room) (book : List Nat) (band : Nat) (ps : List (PathI × Nat)), vs = [.ref a, .ref l, .int (band : Int), .ref lp] ∧ RoomAt K H a r ∧ SqL K H l (natsV book) ∧ PairsAt K H lp ps ∧ ps.length ≤ 200000 ∧
  (∀ p ∈ ps, 0 ≤ p.1.square ∧ GainOk r book band p.1.square.toNat p.1.walls) ∧ (∀ p ∈ ps, ((gainP r book band p).2 : Int) ≤ Eh.LOUD) ∧
  ∀ H' lt, Same H H' → TapsAt K H' lt ((Eh.tapsOf ((ps.map (gainP r book band)).map mkTap)).map fun t => (t.delay, t.gain)) → Q (.ref lt) H'
theorem ok_taps_of (T : Tx K mg base) : Cal P w K mg base 4 "taps_of" (spTaps K) [] := by
  refine mkC T.f_taps_of T.g_taps_of sc_taps_of (fun _ _ _ _ _ _ us hl => match us, hl with | [_, _, _, _], _ => rfl) (fun vs H Q E h => ?_) (fun f cdv A outer s H vs Q E hr h => ⟨_, (pss_cons (ps_set (i := 4) sc_taps_of.nd rfl (Or.inr rfl) pe_dnewK)
      (pss_cons (ps_for PassesOwn.never rfl (pi_list (pv 3)) (pg_tup rfl (pgs_cons (pg_name (i := 5) sc_taps_of.nd rfl (Or.inl rfl)) (pgs_cons (pg_name (i := 6) sc_taps_of.nd rfl (Or.inl rfl)) pgs_nil))) (pss_one (ps_dput (hu_of hr) (pv 4) (pv 6) (pe_op op_add (pe_dget2 (hu_of hr) (pv 4) (pv 6) pe_int ⟨by rfl, by rfl, by rfl, by rfl⟩) (pe_c (ok_gain_of T) hr (by decide) rfl (pa_cons (pv 0) (pa_cons (pv 1) (pa_cons (pv 2) (pa_cons (pv 5) pa_nil)))))) rfl)))
      (pss_one (ps_ret (pe_lc (own := [("delay", 6)]) rfl sc_taps_of.nd (pi_list (pe_callB (cr_sortedD rfl) (by rfl) T.n_sorted (by decide +kernel) (pa_cons (pv 4) pa_nil))) (blkOk_by (own := [("delay", 6)]) (N := ["room", "book", "band", "pairs", "gains", "path", "delay"]) (sc := defScope s_taps_of) (by decide +kernel)) (fun _ _ _ _ _ => (pg_name (i := 6) sc_taps_of.nd rfl (Or.inl rfl))) (fun _ _ _ _ _ => (pts_one (pt_cmpR op_ne (pe_dget (hu_of hr) (pv 4) (pv 6) (fun _ _ => rfl)) pe_int (nomark _)))) (fun _ _ _ _ _ => (pe_tup (pa_cons (pv 6) (pa_cons (pe_callB (call_min2 rfl) (by rfl) T.n_min (by decide +kernel) (pa_cons (pe_gc rfl T.c_MOST_GAIN) (pa_cons (pe_dget (hu_of hr) (pv 4) (pv 6) (fun _ _ => rfl)) pa_nil))) pa_nil))))))))), ?_⟩)
  · obtain ⟨a, l, lp, r, book, band, ps, rfl, _⟩ := h
    rfl
  · obtain ⟨a, l, lp, r, book, band, ps, rfl, hR, hl, hps, big, gok, gle, k⟩ := h
    obtain ⟨ts, hlp, hlen, hat⟩ := hps
    walk_at "d"
    repeat walk_at "s"
    intro G hG
    have S1 := same_new (o := .dK []) hG
    have gG : upd H G (.dK []) G = some (.dK (dictV [])) := upd_same
    generalize upd H G (.dK []) = H1 at *
    repeat walk_at "s"
    refine ⟨lp, rfl, ⟨_, SqL.of (S1 _ _ hlp)⟩, ?_⟩
    refine for_list (xs := ts.map V.ref) (fun i σ H' => ∃ x5 x6 : Option V, σ = [some (.ref a), some (.ref l), some (.int (band : Int)), some (.ref lp), some (.ref G), x5, x6] ∧ Same H H' ∧ H' G = some (.dK (dictV ((ps.map (gainP r book band)).take i)))) ⟨_, _, rfl, S1, gG⟩ (fun i σ H' hi z => ?_) (fun i x σ H' hx z => ?_) (fun σ H' z => ?_)
    · obtain ⟨x5, x6, rfl, S, _⟩ := z
      exact SqL.of (S _ _ hlp)
    · obtain ⟨x5, x6, rfl, S, gG⟩ := z
      rw [List.getElem?_map] at hx
      cases et : ts[i]? with
      | none => rw [et] at hx; cases hx
      | some t =>
      rw [et] at hx
      cases hx
      have hi : i < ps.length := by
        rw [← hlen]
        exact (List.getElem?_eq_some_iff.mp et).1
      have ep : ps[i]? = some ps[i] := List.getElem?_eq_getElem hi
      obtain ⟨pa, dx, lw, g1, g2, g3⟩ := hat i t _ et ep
      obtain ⟨q0, qok⟩ := gok _ (List.mem_of_getElem? ep)
      have eq : (ps.map (gainP r book band))[i]? = some (gainP r book band ps[i]) := by rw [List.getElem?_map, ep]; rfl
      rw [take_more eq]
      have hkl : (dictV ((ps.map (gainP r book band)).take i)).length ≤ 200000 := by
        unfold dictV
        rw [List.length_map]
        refine Nat.le_trans (keysN_len _) ?_
        rw [List.length_take, List.length_map]
        omega
      generalize (ps.map (gainP r book band)).take i = qs at *
      have hR1 := hR.same S
      have g1' := S.tup g1
      have g2' := S _ _ g2
      have g3' := S _ _ g3
      rw [← Int.toNat_of_nonneg q0] at g2'
      refine r_gtup g1' rfl ?_
      repeat walk_at "s"
      refine r_dput ?_
      repeat walk_at "s"
      refine r_dget2 ?_
      repeat walk_at "s"
      refine ⟨G, rfl, .inl ⟨_, .inl gG⟩, ?_⟩
      repeat walk_at "s"
      refine ⟨_, DGet.k (k := Sum.inl ((ps[i]).2 : Int)) gG, ?_⟩
      rw [dictV_val, show (if (ps[i]).2 ∈ keysN qs then some (V.int (sumG qs (ps[i]).2 : Nat)) else none).getD (V.int 0) = V.int (sumG qs (ps[i]).2 : Nat) by
        by_cases m : (ps[i]).2 ∈ keysN qs
        · rw [if_pos m]; rfl
        · rw [if_neg m, sumG_none m]; rfl]
      repeat walk_at "s"
      refine ⟨a, l, pa, dx, lw, r, book, band, _, _, rfl, hR1, S.lst hl, g2', g3', qok, ?_⟩
      repeat walk_at "s"
      refine ⟨G, _, rfl, DPut.k (k := Sum.inl ((ps[i]).2 : Int)) gG (sz1' (by omega)), _, _, rfl, same_put S hG, ?_⟩
      rw [upd_same]
      have e := dictV_put (ps := qs) (p := gainP r book band ps[i])
      exact congrArg (fun z => some (HO.dK z)) e
    · obtain ⟨x5, x6, rfl, S, gG⟩ := z
      rw [List.length_map, hlen, List.take_of_length_le (by rw [List.length_map]; exact Nat.le_refl _)] at gG
      have gle' : ∀ p ∈ ps.map (gainP r book band), (p.2 : Int) ≤ Eh.LOUD := fun p hp => by
        obtain ⟨q, hq, e⟩ := List.mem_map.mp hp
        subst e
        exact gle q hq
      have kl : (keysN (ps.map (gainP r book band))).length ≤ 200000 := by
        refine Nat.le_trans (keysN_len _) ?_
        rw [List.length_map]
        exact big
      generalize ps.map (gainP r book band) = qs at *
      repeat walk_at "s"
      refine ⟨G, _, (keysN qs).map fun d : Nat => (d : Int), rfl, gG, ?_, fun ys p hperm hpair hp => ?_⟩
      · unfold dictV
        rw [List.map_map, List.map_map]
        rfl
      obtain ⟨zs, ez, hz1⟩ : ∃ zs : List Nat, ys = zs.map (fun d : Nat => (d : Int)) ∧ zs.Perm (keysN qs) := by
        refine ⟨ys.map Int.toNat, ?_, ?_⟩
        · rw [List.map_map]
          refine (List.map_id'' (fun y => rfl) ys).symm.trans (List.map_congr_left fun y hy => ?_)
          obtain ⟨d, _, e⟩ := List.mem_map.mp (hperm.mem_iff.mp hy)
          show y = ((y.toNat : Nat) : Int)
          omega
        · have := hperm.map Int.toNat
          rw [List.map_map] at this
          have e : (keysN qs).map (Int.toNat ∘ fun d : Nat => (d : Int)) = keysN qs := (List.map_congr_left fun d _ => Int.toNat_natCast d).trans (List.map_id'' (fun y => rfl) _)
          rw [e] at this
          exact this
      subst ez
      have hz2 : zs.Pairwise (· ≤ ·) := (List.pairwise_map.mp hpair).imp fun {a b} q => by omega
      have law := taps_law gle' hz1 hz2
      have zl : zs.length ≤ 200000 := by rw [hz1.length_eq]; exact kl
      have mem : ∀ d ∈ zs, d ∈ keysN qs := fun d hd => hz1.mem_iff.mp hd
      have S2 := S.trans (same_new (o := .lst ((zs.map fun d : Nat => (d : Int)).map V.int)) hp)
      have gp : upd H' p (.lst ((zs.map fun d : Nat => (d : Int)).map V.int)) p = some (.lst (natsV zs)) := by
        rw [upd_same, List.map_map]
        rfl
      have gG2 := (same_new (o := .lst ((zs.map fun d : Nat => (d : Int)).map V.int)) hp) _ _ gG
      generalize upd H' p (.lst ((zs.map fun d : Nat => (d : Int)).map V.int)) = H2 at *
      refine ⟨p, rfl, ⟨_, SqL.of gp⟩, fun D hD => ?_⟩
      have nl : (natsV zs).length = zs.length := by unfold natsV; rw [List.length_map]
      refine lcList (R := fun x y H => ∃ (d : Nat) (t : Addr), x = .int (d : Int) ∧ y = .ref t ∧ SqT K H t [.int (d : Int), .int (min Eh.LOUD ((sumG qs d : Nat) : Int))]) (p := fun x => decide (sumG qs (natV x) ≠ 0)) (fun x y H H' e h => ?_) (fun x y H D l l' e h => ?_) hD (SqL.of gp) (by omega) (fun i x H3 G3 F hx S3 h0 h1 => ?_) (fun H3 acc S3 gD pr => ?_)
      · obtain ⟨d, t, h1, h2, h3⟩ := h
        exact ⟨d, t, h1, h2, e.tup h3⟩
      · obtain ⟨d, t, h1, h2, h3⟩ := h
        exact ⟨d, t, h1, h2, tup_put e h3⟩
      · refine ⟨rfl, ?_⟩
        unfold natsV at hx
        rw [List.getElem?_map] at hx
        cases ed : zs[i]? with
        | none => rw [ed] at hx; cases hx
        | some d =>
        rw [ed] at hx
        cases hx
        have hm := mem d (List.mem_of_getElem? ed)
        have gG3 := S3 _ _ gG2
        have dg : DGet H3 G (.int (d : Int)) (some (.int (sumG qs d : Nat))) := by
          have := DGet.k (k := Sum.inl (d : Int)) gG3
          rw [dictV_val, if_pos hm] at this
          exact this
        have nd : natV (V.int (d : Int)) = d := Int.toNat_natCast d
        rw [nd] at h0 h1
        repeat walk_at "s"
        refine r_dget ?_
        repeat walk_at "s"
        refine ⟨G, _, rfl, dg, ?_⟩
        repeat walk_at "s"
        refine r_iteB (fun c => ?_) fun c => ?_
        · have c' : sumG qs d ≠ 0 := by
            intro z
            rw [z] at c
            simp at c
          repeat walk_at "s"
          refine r_dget ?_
          repeat walk_at "s"
          refine ⟨G, _, rfl, dg, ?_⟩
          repeat walk_at "s"
          refine ⟨_, _, rfl, ?_⟩
          repeat walk_at "s"
          refine ⟨sz2, fun t ht => ?_⟩
          refine h1 (decide_eq_true c') _ _ (same_new ht) ⟨d, t, rfl, rfl, ?_⟩
          have em : (if ((sumG qs d : Nat) : Int) < 1099511627776 then ((sumG qs d : Nat) : Int) else 1099511627776) = min Eh.LOUD ((sumG qs d : Nat) : Int) := by
            have L : Eh.LOUD = 1099511627776 := by decide
            rw [L]
            split <;> omega
          rw [← em]
          exact SqT.of upd_same
        · have c' : sumG qs d = 0 := by
            by_cases z : sumG qs d = 0
            · exact z
            · exfalso
              have z' : ¬ ((sumG qs d : Nat) : Int) = 0 := by omega
              rw [decide_eq_false z'] at c
              cases c
          exact h0 (decide_eq_false (fun z => z c')) _ (Same.refl _)
      · have S03 := S2.trans S3
        refine k H3 D S03 ⟨acc.map backA, ?_, ?_, fun j t q e1 e2 => ?_⟩
        · rw [gD]
          congr 1
          congr 1
          exact refs_back fun y hy => by
            obtain ⟨_, d, t, _, h2, _⟩ := paired_to pr y hy
            rw [h2]
            rfl
        · rw [List.length_map, ← Paired.length pr, ← law, List.length_map]
          unfold natsV
          rw [List.filter_map, List.length_map]
          refine congrArg List.length (List.filter_congr fun d _ => ?_)
          show decide (sumG qs ((d : Int).toNat) ≠ 0) = decide (sumG qs d ≠ 0)
          rw [Int.toNat_natCast]
        · rw [← law, List.getElem?_map] at e2
          have ef : (natsV zs).filter (fun x => decide (sumG qs (natV x) ≠ 0)) = (zs.filter fun d => decide (sumG qs d ≠ 0)).map fun d : Nat => V.int (d : Int) := by
            unfold natsV
            rw [List.filter_map]
            congr 1
          rw [ef] at pr
          cases ed : (zs.filter fun d => decide (sumG qs d ≠ 0))[j]? with
          | none => rw [ed] at e2; cases e2
          | some d =>
          rw [ed] at e2
          cases e2
          obtain ⟨b, eb, d', t', h1, h2, h3⟩ := paired_at pr j (.int (d : Int)) (by rw [List.getElem?_map, ed]; rfl)
          have : d' = d := by
            have := V.int.inj h1
            omega
          subst this
          rw [List.getElem?_map, eb, h2] at e1
          cases e1
          exact h3
end
end Rt
set_option Elab.async false
set_option linter.all false
set_option maxRecDepth 100000
set_option maxHeartbeats 4000000
namespace Rt
open PySem PySem.Spec PyProof.Rows L2
open C8 (Cal Met Mak pe_c pe_mk pe_mt pe_mt0 pe_gc)
local macro_rules | `(tactic| walk_at "bd") => `(tactic| first
  | assumption | exact Bd.sub (by walk_at "bd") (by walk_at "bd") | exact Bd.add (by walk_at "bd") (by walk_at "bd") | exact Bd.mul (by walk_at "bd") (by walk_at "bd") | exact Bd.neg (by walk_at "bd") | exact Bd.lit (by decide))
local macro_rules | `(tactic| walk_at "r") => `(tactic| with_reducible first
  | refine r_seq ?_ | refine r_ret ?_ | refine r_asg ?_ | refine r_drop ?_ | refine r_op ?_ | refine r_un ?_ | refine r_c ?_ | refine r_cons ?_ | refine r_nil ?_ | refine r_i0 ?_ | refine r_U ?_ | refine r_name ?_ | refine r_if ?_ | refine r_test ?_ | refine r_tB ?_ | refine r_bl ?_
  | refine r_call ?_ | refine r_meth ?_ | refine r_fld ?_ | refine r_tup ?_ | refine r_lst ?_ | refine r_cb ?_ | refine r_andV ?_ | refine r_orV ?_ | refine r_notV ?_ | refine r_and ?_ | refine r_or ?_ | refine r_not ?_ | refine r_eqI ?_ | refine r_neI ?_ | refine r_eqB ?_ | refine r_neB ?_
  | refine r_next ?_ | refine r_par ?_ | refine r_lc ?_ | refine r_yes ?_ | refine r_iList ?_ | refine r_iRng1 ?_ | refine r_lstRg ?_ | refine r_rg1 ?_ | refine r_gcons ?_ | refine r_gnil ?_ | refine r_var (by with_unfolding_all rfl) ?_)
local macro_rules | `(tactic| walk_at "s") => `(tactic| first
  | walk_at "r" | (with_reducible refine r_itT rfl ?_) | (with_reducible refine r_itF rfl ?_) | (with_reducible refine r_ixT (by assumption) (by with_unfolding_all rfl) ?_) | ((with_reducible refine r_iM ?_ ?_); exact bd_mul (by walk_at "bd") (by walk_at "bd") (by decide)) | (with_reducible refine r_gtup (by assumption) (by with_unfolding_all rfl) ?_) | refine RoomAt.meth (by assumption) ?_)
local macro_rules | `(tactic| walk_at "d") => `(tactic| try dsimp only [cxOf, Cx.nox, Cx.wish])

local macro_rules | `(tactic| walk_at "s") => `(tactic| with_reducible first
  | refine r_sl ?_ | refine r_po0 ?_ | refine r_po1 ?_ | refine r_for ?_ | refine r_bm ?_ | refine r_make ?_ | refine r_sfld ?_ | refine r_inl ?_)

local macro_rules | `(tactic| walk_at "s") => `(tactic| with_reducible first
  | refine r_callS ?_ | refine r_methE ?_ | refine r_iRng3 ?_ | refine r_mkO ?_)

theorem pg_tupK {X : Cx} {K : PySem.W.Frag} {es : List Expr} {k n : Nat} {pos : Pos} {t : TGs} (hc : X.calm = true) (hK : X.K = K) (hn : (assignEach es X.env).length = n) (h : PGs X es t) (hst : (assignEach es X.env).findIdx? (·.1) = none := by rfl) : PG X (.Tuple es k pos) (gTup K n t) := by
  subst hK
  exact pg_tup hc h hn hst
theorem lcIdx {K : PySem.W.Frag} {a D : Addr} {xs : List V} {g : TG} {tt : TT} {te : TE} {vs : List Nat} {σ : L2.St} {H1 : Hp} {Qd : Hp → Prop} {f : Nat → V} (hn : H1 D = none) (ha : SqL K H1 a xs) (hz : xs.length ≤ 1000000)
    (hs : ∀ (i : Nat) x H (G : V → Hp → Prop) (F : Hp → Prop), xs[i]? = some x → Same H1 H → (∀ H', Same H H' → G (f i) H') → g x (wipe σ vs) H fun σ2 H2 => wipe σ2 vs = wipe σ vs ∧ tt σ2 H2 fun b H3 => if b = true then te σ2 H3 G else F H3)
    (hd : ∀ H, Same H1 H → H D = some (.lst ((List.range xs.length).map f)) → Qd H) :
    ∃ W : Nat → Nat → Hp → Prop, (∃ m, W 0 m (upd H1 D (.lst []))) ∧ ∀ i m H, W i m H →
      ((Itl K a).stop i H ∧ Qd H) ∨ ((Itl K a).go i H ∧ ∃ Nx : Hp → Prop, (∀ H', Nx H' → ∃ m', m' < m ∧ W (i + 1) m' H') ∧ ∀ x H', (Itl K a).yld i H x H' → g x (wipe σ vs) H' fun σ2 H2 => wipe σ2 vs = wipe σ vs ∧ tt σ2 H2 fun b H3 =>
        if b = true then te σ2 H3 fun y H4 => ∃ acc, H4 D = some (.lst acc) ∧ acc.length < sizeLine ∧ Nx (upd H4 D (.lst (acc ++ [y]))) else Nx H3) := by
  refine ⟨fun i m H => m = xs.length - i ∧ i ≤ xs.length ∧ Same H1 H ∧ H D = some (.lst ((List.range i).map f)), ⟨xs.length, rfl, Nat.zero_le _, same_but hn (Same.refl H1), upd_same⟩, ?_⟩
  rintro i m H ⟨rfl, hi, S, e⟩
  have hq : SqL K H a xs := S.lst ha
  by_cases hlt : i < xs.length
  · have hx : xs[i]? = some xs[i] := List.getElem?_eq_getElem hlt
    refine .inr ⟨⟨xs, _, hq, hx⟩, fun H' => i + 1 ≤ xs.length ∧ Same H1 H' ∧ H' D = some (.lst ((List.range (i + 1)).map f)), fun H' h => ⟨xs.length - (i + 1), by omega, rfl, h.1, h.2.1, h.2.2⟩, fun x H' y => ?_⟩
    obtain ⟨e1, e2⟩ := y
    subst e1
    refine hs i x _ _ _ (e2 xs hq) S fun H3 S3 => ⟨_, S3 _ _ e, ?_, hlt, same_but hn (S.trans S3), ?_⟩
    · rw [List.length_map, List.length_range]
      exact sz1' (by omega)
    · rw [upd_same, List.range_succ, List.map_append]
      rfl
  · have ei : i = xs.length := by omega
    subst ei
    exact .inl ⟨⟨xs, hq, Nat.le_refl _⟩, hd H S e⟩
def lineF (lt ls : Addr) : List (Str × V) := [("taps", .ref lt), ("samples", .ref ls)]
/-- a line in the heap -/
structure LineAt (K : PySem.W.Frag) (H : Hp) (a : Addr) (taps : List (Nat × Int)) (s : List Int) : Prop where
  ex : ∃ dx lt ls, H a = some (.ins (He.ga K "Line") dx (lineF lt ls)) ∧ TapsAt K H lt taps ∧ H ls = some (.lst (s.map V.int)) ∧ lt ≠ ls
theorem TapsAt.same {K : PySem.W.Frag} {H H' : Hp} {l : Addr} {taps : List (Nat × Int)} (h : TapsAt K H l taps) (e : Same H H') : TapsAt K H' l taps := by
  obtain ⟨ts, h1, h2, h3⟩ := h
  exact ⟨ts, e _ _ h1, h2, fun j t p a b => e.tup (h3 j t p a b)⟩
theorem LineAt.same {K : PySem.W.Frag} {H H' : Hp} {a : Addr} {taps : List (Nat × Int)} {s : List Int} (h : LineAt K H a taps s) (e : Same H H') : LineAt K H' a taps s := by
  obtain ⟨dx, lt, ls, h1, h2, h3, h4⟩ := h
  exact ⟨dx, lt, ls, e _ _ h1, h2.same e, e _ _ h3, h4⟩
/-- small numbers all of them -/
structure LineOk (taps : List (Nat × Int)) (s : List Int) : Prop where
  t4 : taps.length ≤ 4096
  s3 : s.length ≤ 1000
  tg : ∀ t ∈ taps, Bd 50 t.2
  td : ∀ t ∈ taps, t.1 ≤ 262143
  sv : ∀ x ∈ s, Bd 40 x
theorem LineAt.meth {K : PySem.W.Frag} {H : Hp} {a : Addr} {taps : List (Nat × Int)} {s : List Int} {m : Str} {R : Prop} (hR : LineAt K H a taps s) (h : R) (n1 : (m == ("taps" : Str)) = false := by decide +kernel) (n2 : (m == ("samples" : Str)) = false := by decide +kernel) :
    ∃ a' dx fs, V.ref a = .ref a' ∧ H a' = some (.ins (He.ga K "Line") dx fs) ∧ fs.lookup m = none ∧ R := by
  obtain ⟨dx, lt, ls, h1, _⟩ := hR
  exact ⟨a, dx, _, rfl, h1, (lk_past n1).trans ((lk_past n2).trans lk_no), h⟩
theorem bd_sample {taps : List (Nat × Int)} {s : List Int} (ok : LineOk taps s) (n : Int) : Bd 40 (iSample s n) := by
  unfold iSample
  split
  · exact ⟨by decide⟩
  · rw [List.getD_eq_getElem?_getD]
    cases e : s[n.toNat]? with
    | none => exact ⟨by decide⟩
    | some x => exact ok.sv x (List.mem_of_getElem? e)
theorem bd_sum {n : Nat} : ∀ l : List Int, (∀ x ∈ l, x.natAbs ≤ n) → l.sum.natAbs ≤ l.length * n
  | [], _ => by simp
  | x :: l, h => by
    have ih := bd_sum l fun y hy => h y (List.mem_cons_of_mem _ hy)
    have hx := h x List.mem_cons_self
    rw [List.sum_cons, List.length_cons, Nat.add_mul]
    omega
theorem bd_total {taps : List (Nat × Int)} {s : List Int} (ok : LineOk taps s) (n : Int) : Bd 110 (iTotal taps s n) := by
  unfold iTotal
  have h := bd_sum (n := 2 ^ 90) (taps.map fun t => t.2 * iSample s (n - (t.1 : Int))) fun x hx => by
    obtain ⟨t, ht, e⟩ := List.mem_map.mp hx
    subst e
    exact Nat.le_of_lt (Bd.mul (ok.tg t ht) (bd_sample ok _)).h
  rw [List.length_map] at h
  refine ⟨?_⟩
  have h4 := ok.t4
  have e1 : (2 : Nat) ^ 90 = 1237940039285380274899124224 := by decide
  have e2 : (2 : Nat) ^ 110 = 1298074214633706907132624082305024 := by decide
  have := Nat.mul_le_mul_right (2 ^ 90) h4
  omega
section
variable {P : Program} {w : World} {K : PySem.W.Frag} {mg : Str → Option Value} {base : Heap}
def spHeld : Sp := fun vs H Q _ => ∃ n : Int, vs = [.int n] ∧ Q (.int (iHeld n)) H
theorem ok_held (T : Tx K mg base) : Cal P w K mg base 1 "held" spHeld [] := by
  refine mkC T.f_held T.g_held sc_held (fun _ _ _ _ _ _ us hl => match us, hl with | [_], _ => rfl) (fun vs H Q E h => ?_) (fun f cdv A outer s H vs Q E hr h => ⟨_, (pss_one (ps_ret (pe_callB (call_max2 rfl) (by rfl) T.n_max (by decide +kernel) (pa_cons (pe_gc rfl T.c_LEAST) (pa_cons (pe_callB (call_min2 rfl) (by rfl) T.n_min (by decide +kernel) (pa_cons (pe_gc rfl T.c_GREATEST) (pa_cons (pv 0) pa_nil))) pa_nil))))), ?_⟩)
  · obtain ⟨n, rfl, _⟩ := h
    rfl
  · obtain ⟨n, rfl, k⟩ := h
    walk_at "d"
    repeat walk_at "s"
    refine ⟨_, _, rfl, ?_⟩
    repeat walk_at "s"
    refine ⟨_, _, rfl, ?_⟩
    have e : (if (if n < 2147483647 then n else 2147483647) > -2147483648 then (if n < 2147483647 then n else 2147483647) else -2147483648) = iHeld n := by
      unfold iHeld
      split <;> split <;> omega
    rw [e]
    exact k
def spLineI (K : PySem.W.Frag) : Sp := fun vs H Q _ => ∃ (x dx : Addr), vs = [.ref x] ∧ H x = some (.ins (He.ga K "Line") dx []) ∧ ∀ H', (∀ b u, b ≠ x → H b = some u → H' b = some u) → (∀ dx' lt ls, H' x = some (.ins (He.ga K "Line") dx' (lineF lt ls)) → H lt = none ∧ H ls = none) → LineAt K H' x [] [] → Q .non H'
theorem ok_Line_init (T : Tx K mg base) : Mak P w K mg base 1 "Line" (He.ga K "Line") (spLineI K) [] := by
  refine mkK T.f_Line_init T.m_Line T.g_Line sc_Line_init (fun _ _ _ _ _ _ us hl => match us, hl with | [_], _ => rfl) (fun vs H Q E h => ?_) (fun f cdv A outer s H vs Q E hr h => ⟨_, (pss_cons (ps_fld (pv 0) (pe_lst pa_nil) rfl)
      (pss_one (ps_fld (pv 0) (pe_lst pa_nil) rfl))), ?_⟩)
  · obtain ⟨x, dx, rfl, _⟩ := h
    rfl
  · obtain ⟨x, dx, rfl, hx, k⟩ := h
    walk_at "d"
    repeat walk_at "s"
    refine ⟨sz0, fun l1 h1 => ?_⟩
    have n1 : l1 ≠ x := fun q => by rw [q, hx] at h1; cases h1
    repeat walk_at "s"
    refine ⟨x, _, _, _, rfl, (upd_ne (Ne.symm n1)).trans hx, T.k_Line, T.a_Line_taps, by decide, ?_⟩
    repeat walk_at "s"
    refine ⟨sz0, fun l2 h2 => ?_⟩
    have n2 : l2 ≠ x := fun q => by rw [q, upd_same] at h2; cases h2
    have n21 : l2 ≠ l1 := fun q => by rw [q, upd_ne n1, upd_same] at h2; cases h2
    have h2' : H l2 = none := by rw [upd_ne n2, upd_ne n21] at h2; exact h2
    repeat walk_at "s"
    refine ⟨x, _, _, _, rfl, (upd_ne (Ne.symm n2)).trans upd_same, T.k_Line, T.a_Line_samples, (by show 1 < 1000; decide), ?_⟩
    have e : putF "samples" (.ref l2) (putF "taps" (.ref l1) []) = lineF l1 l2 := by rw [show putF "taps" (.ref l1) [] = [(("taps" : Str), V.ref l1)] from rfl, put_past (by decide)]; rfl
    rw [e]
    have g : ∀ b, b ≠ x → b ≠ l1 → b ≠ l2 → upd (upd (upd (upd H l1 (.lst [])) x (.ins (He.ga K "Line") dx (putF "taps" (.ref l1) []))) l2 (.lst [])) x (.ins (He.ga K "Line") dx (lineF l1 l2)) b = H b := fun b q1 q2 q3 => by rw [upd_ne q1, upd_ne q3, upd_ne q1, upd_ne q2]
    refine k _ (fun b u hb e => ?_) (fun dx' lt ls e => ?_) ⟨dx, l1, l2, upd_same, ⟨[], ?_, rfl, fun j t p e => by simp at e⟩, ?_, Ne.symm n21⟩
    · rw [g b hb (fun q => by rw [q, h1] at e; cases e) (fun q => by rw [q, h2'] at e; cases e)]
      exact e
    · rw [upd_same] at e
      cases e
      exact ⟨h1, h2'⟩
    · rw [upd_ne n1, upd_ne (Ne.symm n21), upd_ne n1, upd_same]
      rfl
    · rw [upd_ne n2, upd_same]
      rfl
def spSample (K : PySem.W.Frag) : Sp := fun vs H Q _ => ∃ (a : Addr) (taps : List (Nat × Int)) (s : List Int) (n : Int), vs = [.ref a, .int n] ∧ LineAt K H a taps s ∧ Q (.int (iSample s n)) H
theorem ok_Line_sample (T : Tx K mg base) : Met P w K mg base 1 (He.ga K "Line") "sample" (spSample K) [] := by
  refine mkM T.f_Line_sample T.k_Line T.t_Line_sample sc_Line_sample (fun _ _ _ _ _ _ us hl => match us, hl with | [_, _], _ => rfl) (fun vs H Q E h => ?_) (fun f cdv A outer s H vs Q E hr h => ⟨_, (pss_cons (ps_if (PW.pt (pw_or (pt_cmpR op_lt (pv 1) pe_int (nomark _)) (pw_or1 (pt_cmpR op_ge (pv 1) (pe_callB call_len_seq (by rfl) T.n_len PySem.boot_len (pa_cons (pe_fld (pv 0) rfl) pa_nil)) (nomark _))))) (pss_one (ps_ret pe_int)) pss_nil)
      (pss_one (ps_ret (pe_ix (r := rIxL K) ix_list (pe_fld (pv 0) rfl) (pv 1) (fun _ _ => rfl))))), ?_⟩)
  · obtain ⟨a, taps, s, n, rfl, _⟩ := h
    rfl
  · obtain ⟨a, taps, s', n, rfl, hL, k⟩ := h
    obtain ⟨dx, lt, ls, h1, h2, h3, h4⟩ := hL
    walk_at "d"
    repeat walk_at "s"
    refine r_iteB (fun c => ?_) fun c => ?_
    · have c := of_decide_eq_true c
      repeat walk_at "s"
      unfold iSample at k
      rw [if_pos (.inl c)] at k
      exact k
    · have c := of_decide_eq_false c
      repeat walk_at "s"
      refine ⟨_, _, _, _, _, rfl, h1, T.k_Line, T.a_Line_samples, (lk_past (by decide +kernel)).trans lk_here, ?_⟩
      repeat walk_at "s"
      refine ⟨_, _, rfl, .inl (SqL.of h3), ?_⟩
      rw [List.length_map]
      repeat walk_at "s"
      refine r_iteB (fun c2 => ?_) fun c2 => ?_
      · have c2 := of_decide_eq_true c2
        repeat walk_at "s"
        unfold iSample at k
        rw [if_pos (.inr c2)] at k
        exact k
      · have c2 := of_decide_eq_false c2
        repeat walk_at "s"
        refine ⟨_, _, _, _, _, rfl, h1, T.k_Line, T.a_Line_samples, (lk_past (by decide +kernel)).trans lk_here, ?_⟩
        repeat walk_at "s"
        unfold iSample at k
        rw [if_neg (fun z => z.elim c c2)] at k
        exact r_ixL (SqL.of h3) (at_told (i := n.toNat) (by omega) (by omega)) k
def spOut (K : PySem.W.Frag) : Sp := fun vs H Q _ => ∃ (a : Addr) (taps : List (Nat × Int)) (s : List Int) (n : Int), vs = [.ref a, .int n] ∧ LineAt K H a taps s ∧ LineOk taps s ∧ ∀ H', Same H H' → Q (.int (iOut taps s n)) H'
theorem ok_Line_out (T : Tx K mg base) : Met P w K mg base 2 (He.ga K "Line") "out" (spOut K) [] := by
  refine mkM T.f_Line_out T.k_Line T.t_Line_out sc_Line_out (fun _ _ _ _ _ _ us hl => match us, hl with | [_, _], _ => rfl) (fun vs H Q E h => ?_) (fun f cdv A outer s H vs Q E hr h => ⟨_, (pss_cons (ps_set (i := 2) sc_Line_out.nd rfl (Or.inl rfl) (pe_callB (cr_sum rfl) (by rfl) T.n_sum (by decide +kernel) (pa_cons (pe_lc (own := [("delay", 3), ("gain", 4)]) rfl sc_Line_out.nd (pi_list (pe_fld (pv 0) rfl)) (blkOk_by (own := [("delay", 3), ("gain", 4)]) (N := ["self", "n", "total", "delay", "gain"]) (sc := defScope s_Line_out) (by decide +kernel)) (fun _ _ _ _ _ => (pg_tupK (K := K) (n := 2) rfl rfl rfl (pgs_cons (pg_name (i := 3) sc_Line_out.nd rfl (Or.inl rfl)) (pgs_cons (pg_name (i := 4) sc_Line_out.nd rfl (Or.inl rfl)) pgs_nil)))) (fun _ _ _ _ _ => pts_nil) (fun _ _ _ _ _ => (pe_op op_mulW (pv 4) (pe_mt (ok_Line_sample T) hr (by decide) (pv 0) (pa_cons (pe_op op_sub (pv 1) (pv 3)) pa_nil))))) pa_nil)))
      (pss_one (ps_ret (pe_op op_shr (pe_op op_add (pe_op op_mulW pe_int (pv 2)) (pe_gc rfl T.c_UNIT)) (pe_gc rfl T.c_HALF_BITS))))), ?_⟩)
  · obtain ⟨a, taps, s, n, rfl, _⟩ := h
    rfl
  · obtain ⟨a, taps, s', n, rfl, hL, ok, k⟩ := h
    have bt := bd_total ok n
    obtain ⟨dx, lt, ls, h1, h2, h3, h4⟩ := id hL
    obtain ⟨ts, g1, g2, g3⟩ := h2
    walk_at "d"
    repeat walk_at "s"
    refine ⟨_, _, _, _, _, rfl, h1, T.k_Line, T.a_Line_taps, lk_here, ?_⟩
    refine ⟨lt, rfl, ⟨_, SqL.of g1⟩, fun D hD => ?_⟩
    have t4 := ok.t4
    have tl : (ts.map V.ref).length = taps.length := by rw [List.length_map]; exact g2
    refine lcIdx (f := fun j => match taps[j]? with | some t => .int (t.2 * iSample s' (n - (t.1 : Int))) | none => .non) hD (SqL.of g1) (by rw [tl]; omega) (fun i x H1 G F hx S1 h => ?_) (fun H1 S1 e => ?_)
    · rw [List.getElem?_map] at hx
      cases et : ts[i]? with
      | none => rw [et] at hx; cases hx
      | some t =>
      rw [et] at hx
      cases hx
      have hi : i < taps.length := by
        rw [← g2]
        exact (List.getElem?_eq_some_iff.mp et).1
      have ep : taps[i]? = some taps[i] := List.getElem?_eq_getElem hi
      have tg := g3 i t _ et ep
      have bg := ok.tg _ (List.mem_of_getElem? ep)
      rw [ep] at h
      dsimp only at h
      generalize taps[i] = p at *
      have hL1 := hL.same S1
      refine r_gtup (S1.tup tg) rfl ?_
      repeat walk_at "s"
      refine ⟨rfl, ?_⟩
      refine r_yes ?_
      refine r_itT rfl ?_
      repeat walk_at "s"
      refine LineAt.meth hL1 ?_
      repeat walk_at "s"
      refine ⟨a, taps, s', _, rfl, hL1, ?_⟩
      have bs := bd_sample ok (n - (p.1 : Int))
      repeat walk_at "s"
      exact h _ (Same.refl _)
    · rw [tl] at e
      have e2 : H1 D = some (.lst ((taps.map fun t => t.2 * iSample s' (n - (t.1 : Int))).map V.int)) := by
        rw [e]
        congr 2
        refine List.ext_getElem? fun j => ?_
        rw [List.getElem?_map, List.getElem?_map, List.getElem?_map]
        by_cases hj : j < taps.length
        · rw [List.getElem?_range hj, List.getElem?_eq_getElem hj]
          show some (match taps[j]? with | some t => V.int (t.2 * iSample s' (n - (t.1 : Int))) | none => .non) = _
          rw [List.getElem?_eq_getElem hj]
          rfl
        · rw [List.getElem?_eq_none (by rw [List.length_range]; omega), List.getElem?_eq_none (by omega)]
          rfl
      repeat walk_at "s"
      refine ⟨D, _, rfl, SqL.of e2, ?_⟩
      have k1 := k _ S1
      unfold iOut at k1
      rw [show (taps.map fun t => t.2 * iSample s' (n - (t.1 : Int))).sum = iTotal taps s' n from rfl]
      generalize iTotal taps s' n = tot at *
      repeat walk_at "s"
      exact r_iC (C := fun _ j => 0 ≤ j) (by decide) k1
end
end Rt
set_option Elab.async false
set_option linter.all false
set_option maxRecDepth 100000
set_option maxHeartbeats 4000000
namespace Rt
open PySem PySem.Spec PyProof.Rows L2
open C8 (Cal Met Mak pe_c pe_mk pe_mt pe_mt0 pe_gc)
local macro_rules | `(tactic| walk_at "bd") => `(tactic| first
  | assumption | exact Bd.sub (by walk_at "bd") (by walk_at "bd") | exact Bd.add (by walk_at "bd") (by walk_at "bd") | exact Bd.mul (by walk_at "bd") (by walk_at "bd") | exact Bd.neg (by walk_at "bd") | exact Bd.lit (by decide))
local macro_rules | `(tactic| walk_at "r") => `(tactic| with_reducible first
  | refine r_seq ?_ | refine r_ret ?_ | refine r_asg ?_ | refine r_drop ?_ | refine r_op ?_ | refine r_un ?_ | refine r_c ?_ | refine r_cons ?_ | refine r_nil ?_ | refine r_i0 ?_ | refine r_U ?_ | refine r_name ?_ | refine r_if ?_ | refine r_test ?_ | refine r_tB ?_ | refine r_bl ?_
  | refine r_call ?_ | refine r_meth ?_ | refine r_fld ?_ | refine r_tup ?_ | refine r_lst ?_ | refine r_cb ?_ | refine r_andV ?_ | refine r_orV ?_ | refine r_notV ?_ | refine r_and ?_ | refine r_or ?_ | refine r_not ?_ | refine r_eqI ?_ | refine r_neI ?_ | refine r_eqB ?_ | refine r_neB ?_
  | refine r_next ?_ | refine r_par ?_ | refine r_lc ?_ | refine r_yes ?_ | refine r_iList ?_ | refine r_iRng1 ?_ | refine r_lstRg ?_ | refine r_rg1 ?_ | refine r_gcons ?_ | refine r_gnil ?_ | refine r_var (by with_unfolding_all rfl) ?_)
local macro_rules | `(tactic| walk_at "s") => `(tactic| first
  | walk_at "r" | (with_reducible refine r_itT rfl ?_) | (with_reducible refine r_itF rfl ?_) | (with_reducible refine r_ixT (by assumption) (by with_unfolding_all rfl) ?_) | ((with_reducible refine r_iM ?_ ?_); exact bd_mul (by walk_at "bd") (by walk_at "bd") (by decide)) | (with_reducible refine r_gtup (by assumption) (by with_unfolding_all rfl) ?_) | refine RoomAt.meth (by assumption) ?_)
local macro_rules | `(tactic| walk_at "d") => `(tactic| try dsimp only [cxOf, Cx.nox, Cx.wish])

local macro_rules | `(tactic| walk_at "s") => `(tactic| with_reducible first
  | refine r_sl ?_ | refine r_po0 ?_ | refine r_po1 ?_ | refine r_for ?_ | refine r_bm ?_ | refine r_make ?_ | refine r_sfld ?_ | refine r_inl ?_)

local macro_rules | `(tactic| walk_at "s") => `(tactic| with_reducible first
  | refine r_callS ?_ | refine r_methE ?_ | refine r_iRng3 ?_ | refine r_mkO ?_)

/-- all but what stands at one place is kept -/
def Keep (ls : Addr) (H H' : Hp) : Prop := ∀ b u, b ≠ ls → H b = some u → H' b = some u
theorem Keep.trans {ls : Addr} {H1 H2 H3 : Hp} (a : Keep ls H1 H2) (b : Keep ls H2 H3) : Keep ls H1 H3 := fun x u n e => b x u n (a x u n e)
theorem Keep.of {ls : Addr} {H H' : Hp} (s : Same H H') : Keep ls H H' := fun b u _ e => s b u e
theorem Keep.put {ls : Addr} {H0 H : Hp} {o : HO} (k : Keep ls H0 H) : Keep ls H0 (upd H ls o) := fun b u n e => (upd_ne n).trans (k b u n e)
theorem Keep.tup {K : PySem.W.Frag} {ls : Addr} {H H' : Hp} {t : Addr} {xs ys : List V} (k : Keep ls H H') (hl : H ls = some (.lst ys)) (h : SqT K H t xs) : SqT K H' t xs := by
  rcases h with (h | ⟨o, h⟩) | h
  · exact .inl (.inl (k _ _ (fun q => by rw [q, hl] at h; cases h) h))
  · exact .inl (.inr ⟨o, k _ _ (fun q => by rw [q, hl] at h; cases h) h⟩)
  · exact .inr h
theorem Keep.lst {K : PySem.W.Frag} {ls : Addr} {H H' : Hp} {t : Addr} {xs : List V} (k : Keep ls H H') (n : t ≠ ls) (h : SqL K H t xs) : SqL K H' t xs := by
  rcases h with (h | ⟨o, h⟩) | h
  · exact .inl (.inl (k _ _ n h))
  · exact .inl (.inr ⟨o, k _ _ n h⟩)
  · exact .inr h
theorem TapsAt.keep {K : PySem.W.Frag} {ls lt : Addr} {H H' : Hp} {taps : List (Nat × Int)} {ys : List V} (h : TapsAt K H lt taps) (k : Keep ls H H') (hl : H ls = some (.lst ys)) (n : lt ≠ ls) : TapsAt K H' lt taps := by
  obtain ⟨ts, h1, h2, h3⟩ := h
  exact ⟨ts, k _ _ n h1, h2, fun j t p a b => k.tup hl (h3 j t p a b)⟩
theorem LineOk.less {taps : List (Nat × Int)} {s s' : List Int} (h : LineOk taps s) (l : s'.length ≤ s.length) (m : ∀ x ∈ s', x ∈ s) : LineOk taps s' := ⟨h.t4, Nat.le_trans l h.s3, h.tg, h.td, fun x hx => h.sv x (m x hx)⟩
section
variable {P : Program} {w : World} {K : PySem.W.Frag} {mg : Str → Option Value} {base : Heap}
theorem ok_Line_past' : True := trivial
def spPast (K : PySem.W.Frag) : Sp := fun vs H Q _ => ∃ (a : Addr) (taps : List (Nat × Int)) (s : List Int) (n : Int), vs = [.ref a, .int n] ∧ LineAt K H a taps s ∧ Q (.int (iPast s n)) H
theorem ok_Line_past (T : Tx K mg base) : Met P w K mg base 2 (He.ga K "Line") "past" (spPast K) [] := by
  refine mkM T.f_Line_past T.k_Line T.t_Line_past sc_Line_past (fun _ _ _ _ _ _ us hl => match us, hl with | [_, _], _ => rfl) (fun vs H Q E h => ?_) (fun f cdv A outer s H vs Q E hr h => ⟨_, (pss_one (ps_ret (pe_mt (ok_Line_sample T) hr (by decide) (pv 0) (pa_cons (pe_op op_sub (pe_op op_sub (pe_callB call_len_seq (by rfl) T.n_len PySem.boot_len (pa_cons (pe_fld (pv 0) rfl) pa_nil)) pe_int) (pv 1)) pa_nil)))), ?_⟩)
  · obtain ⟨a, taps, s, n, rfl, _⟩ := h
    rfl
  · obtain ⟨a, taps, s', n, rfl, hL, k⟩ := h
    obtain ⟨dx, lt, ls, h1, h2, h3, h4⟩ := id hL
    walk_at "d"
    repeat walk_at "s"
    refine LineAt.meth hL ?_
    repeat walk_at "s"
    refine ⟨_, _, _, _, _, rfl, h1, T.k_Line, T.a_Line_samples, (lk_past (by decide +kernel)).trans lk_here, ?_⟩
    repeat walk_at "s"
    refine ⟨_, _, rfl, .inl (SqL.of h3), ?_⟩
    rw [List.length_map]
    repeat walk_at "s"
    exact ⟨a, taps, s', _, rfl, hL, k⟩
def spRun (K : PySem.W.Frag) : Sp := fun vs H Q _ => ∃ (a dx lt ls l : Addr) (taps : List (Nat × Int)) (s row : List Int), vs = [.ref a, .ref l] ∧ H a = some (.ins (He.ga K "Line") dx (lineF lt ls)) ∧ TapsAt K H lt taps ∧ H ls = some (.lst (s.map V.int)) ∧ lt ≠ ls ∧
  SqL K H l (row.map V.int) ∧ l ≠ ls ∧ LineOk taps (s ++ row) ∧ ∀ H' D, Keep ls H H' → H' ls = some (.lst ((s ++ row).map V.int)) → H' D = some (.lst ((iRun taps s row).map V.int)) → H D = none → Q (.ref D) H'
theorem outs_take {taps : List (Nat × Int)} {s row : List Int} {i : Nat} {x : Int} (h : row[i]? = some x) : iOuts taps s (row.take (i + 1)) = iOuts taps s (row.take i) ++ [iOut taps (s ++ row.take (i + 1)) ((s.length + i : Nat) : Int)] := by
  have hi : i < row.length := (List.getElem?_eq_some_iff.mp h).1
  unfold iOuts
  rw [List.length_take, List.length_take, Nat.min_eq_left (by omega), Nat.min_eq_left (by omega), List.range_succ, List.map_append]
  congr 1
  · refine List.map_congr_left fun j hj => ?_
    have := List.mem_range.mp hj
    rw [List.take_take, List.take_take, Nat.min_eq_left (by omega), Nat.min_eq_left (by omega)]
  · rw [List.map_singleton, List.take_take, Nat.min_self]
theorem many_snoc {l : List Int} {f : Int} : (iMany (l ++ [f]) : Int) = (iMany l : Int) + (if (!decide (iHeld f = f)) = true then 1 else 0) := by
  unfold iMany
  rw [List.filter_append, List.length_append]
  by_cases h : iHeld f = f
  · rw [List.filter_cons_of_neg (by simpa using h)]
    simp [h]
  · rw [List.filter_cons_of_pos (by simpa using h)]
    simp [h]
theorem ok_Line_run (T : Tx K mg base) : Met P w K mg base 3 (He.ga K "Line") "run" (spRun K) [] := by
  refine mkM T.f_Line_run T.k_Line T.t_Line_run sc_Line_run (fun _ _ _ _ _ _ us hl => match us, hl with | [_, _], _ => rfl) (fun vs H Q E h => ?_) (fun f cdv A outer s H vs Q E hr h => ⟨_, (pss_cons (ps_set (i := 2) sc_Line_run.nd rfl (Or.inl rfl) pe_int)
      (pss_cons (ps_set (i := 3) sc_Line_run.nd rfl (Or.inl rfl) (pe_lst pa_nil))
      (pss_cons (ps_for PassesOwn.never rfl (pi_list (pv 1)) (pg_name (i := 4) sc_Line_run.nd rfl (Or.inl rfl)) (pss_cons (ps_expr (pe_bm PySem.F.plainAttrs_list PySem.F.slot_list_append PySem.F.type_list_append mt_append (pe_fld (pv 0) rfl) (pa_cons (pv 4) pa_nil)))
      (pss_cons (ps_set (i := 5) sc_Line_run.nd rfl (Or.inl rfl) (pe_mt (ok_Line_out T) hr (by decide) (pv 0) (pa_cons (pe_op op_sub (pe_callB call_len_seq (by rfl) T.n_len PySem.boot_len (pa_cons (pe_fld (pv 0) rfl) pa_nil)) pe_int) pa_nil)))
      (pss_cons (ps_set (i := 2) sc_Line_run.nd rfl (Or.inl rfl) (pe_op op_add (pv 2) (pe_callTy call_int1 (by rfl) T.n_int (by decide +kernel) (pa_cons (pe_cmpR op_ne (pe_c (ok_held T) hr (by decide) rfl (pa_cons (pv 5) pa_nil)) (pv 5) (nomark _)) pa_nil))))
      (pss_one (ps_expr (pe_bm PySem.F.plainAttrs_list PySem.F.slot_list_append PySem.F.type_list_append mt_append (pv 3) (pa_cons (pe_c (ok_held T) hr (by decide) rfl (pa_cons (pv 5) pa_nil)) pa_nil))))))))
      (pss_one (ps_ret (pe_op op_cat (pe_lst (pa_cons (pv 2) pa_nil)) (pv 3))))))), ?_⟩)
  · obtain ⟨a, dx, lt, ls, l, taps, s, row, rfl, _⟩ := h
    rfl
  · obtain ⟨a, dx, lt, ls, l, taps, s', row, rfl, ha, hlt, hls, n1, hl, n2, ok, k⟩ := h
    have na : a ≠ ls := fun q => by rw [q, hls] at ha; cases ha
    have s3 := ok.s3
    rw [List.length_append] at s3
    walk_at "d"
    repeat walk_at "s"
    refine ⟨sz0, fun N hN => ?_⟩
    have S1 := same_new (o := .lst []) hN
    have nN : ls ≠ N := fun q => by rw [← q, hls] at hN; cases hN
    have gN : upd H N (.lst []) N = some (.lst []) := upd_same
    have g0 : upd H N (.lst []) ls = some (.lst (s'.map V.int)) := S1 _ _ hls
    generalize upd H N (.lst []) = H1 at *
    repeat walk_at "s"
    refine ⟨l, rfl, ⟨_, S1.lst hl⟩, ?_⟩
    refine for_list (xs := row.map V.int) (fun i σ H' => ∃ x4 x5 : Option V, σ = [some (.ref a), some (.ref l), some (.int (iMany (iOuts taps s' (row.take i)))), some (.ref N), x4, x5] ∧ Keep ls H H' ∧ H' ls = some (.lst ((s' ++ row.take i).map V.int)) ∧ H' N = some (.lst (((iOuts taps s' (row.take i)).map iHeld).map V.int)))
      ⟨_, _, rfl, Keep.of S1, by rw [List.take_zero, List.append_nil]; exact g0, by rw [List.take_zero]; exact gN⟩ (fun i σ H' hi z => ?_) (fun i x σ H' hx z => ?_) (fun σ H' z => ?_)
    · obtain ⟨x4, x5, rfl, kp, _⟩ := z
      exact kp.lst n2 hl
    · obtain ⟨x4, x5, rfl, kp, gs, gN⟩ := z
      rw [List.getElem?_map] at hx
      cases ex : row[i]? with
      | none => rw [ex] at hx; cases hx
      | some v =>
      rw [ex] at hx
      cases hx
      have hi : i < row.length := (List.getElem?_eq_some_iff.mp ex).1
      rw [outs_take ex, many_snoc, take_more ex]
      repeat walk_at "s"
      refine ⟨_, _, _, _, _, rfl, kp _ _ na ha, T.k_Line, T.a_Line_samples, (lk_past (by decide +kernel)).trans lk_here, ?_⟩
      repeat walk_at "s"
      refine ⟨tyl gs, ?_⟩
      repeat walk_at "s"
      refine ⟨ls, _, _, rfl, rfl, gs, by rw [List.length_map, List.length_append, List.length_take]; exact sz1' (by omega), ?_⟩
      have e1 : (s' ++ row.take i).map V.int ++ [V.int v] = (s' ++ (row.take i ++ [v])).map V.int := by rw [List.map_append, List.map_append, List.map_append, List.append_assoc]; rfl
      rw [e1]
      have kp2 : Keep ls H (upd H' ls (.lst ((s' ++ (row.take i ++ [v])).map V.int))) := kp.put
      have gs2 : upd H' ls (.lst ((s' ++ (row.take i ++ [v])).map V.int)) ls = some (.lst ((s' ++ (row.take i ++ [v])).map V.int)) := upd_same
      have gN2 : upd H' ls (.lst ((s' ++ (row.take i ++ [v])).map V.int)) N = some (.lst (((iOuts taps s' (row.take i)).map iHeld).map V.int)) := (upd_ne (Ne.symm nN)).trans gN
      have ea : s' ++ row.take (i + 1) = s' ++ (row.take i ++ [v]) := by rw [take_more ex]
      have ok2 : LineOk taps (s' ++ (row.take i ++ [v])) := by
        rw [← ea]
        exact ok.less (by rw [List.length_append, List.length_append, List.length_take]; omega) fun x hx => by
          rcases List.mem_append.mp hx with q | q
          · exact List.mem_append_left _ q
          · exact List.mem_append_right _ (List.mem_of_mem_take q)
      have el : (s' ++ (row.take i ++ [v])).length = s'.length + i + 1 := by rw [← ea, List.length_append, List.length_take, Nat.min_eq_left (by omega)]; omega
      have il : (iOuts taps s' (row.take i)).length ≤ 1000 := by unfold iOuts; rw [List.length_map, List.length_range, List.length_take]; omega
      generalize upd H' ls (.lst ((s' ++ (row.take i ++ [v])).map V.int)) = H2 at *
      generalize iOuts taps s' (row.take i) = os at *
      generalize s' ++ (row.take i ++ [v]) = s2 at *
      have hL2 : LineAt K H2 a taps s2 := ⟨dx, lt, ls, kp2 _ _ na ha, hlt.keep kp2 hls n1, gs2, n1⟩
      repeat walk_at "s"
      refine LineAt.meth hL2 ?_
      repeat walk_at "s"
      refine ⟨_, _, _, _, _, rfl, kp2 _ _ na ha, T.k_Line, T.a_Line_samples, (lk_past (by decide +kernel)).trans lk_here, ?_⟩
      repeat walk_at "s"
      refine ⟨_, _, rfl, .inl (SqL.of gs2), ?_⟩
      rw [List.length_map, el]
      repeat walk_at "s"
      refine ⟨a, taps, s2, _, rfl, hL2, ok2, fun H3 S3 => ?_⟩
      rw [show (((s'.length + i + 1 : Nat) : Int) - 1) = ((s'.length + i : Nat) : Int) by omega]
      generalize iOut taps s2 ((s'.length + i : Nat) : Int) = f0 at *
      repeat walk_at "s"
      refine ⟨_, rfl, ?_⟩
      repeat walk_at "s"
      refine .inr ⟨_, rfl, ?_⟩
      repeat walk_at "s"
      refine ⟨tyl (S3 _ _ gN2), ?_⟩
      repeat walk_at "s"
      refine ⟨_, rfl, ?_⟩
      repeat walk_at "s"
      refine ⟨N, _, _, rfl, rfl, S3 _ _ gN2, by rw [List.length_map, List.length_map]; exact sz1' (by omega), ?_⟩
      refine r_next ?_
      refine ⟨_, _, rfl, fun b u nb e => ?_, (upd_ne nN).trans (S3 _ _ gs2), ?_⟩
      · rw [upd_ne (fun q => by rw [q, hN] at e; cases e)]
        exact S3 _ _ (kp2 b u nb e)
      · rw [upd_same, List.map_append, List.map_append]
        rfl
    · obtain ⟨x4, x5, rfl, kp, gs, gN⟩ := z
      rw [List.length_map, List.take_length] at gs gN
      rw [List.length_map, List.take_length]
      have il : (iOuts taps s' row).length ≤ 1000 := by unfold iOuts; rw [List.length_map, List.length_range]; omega
      repeat walk_at "s"
      refine ⟨szA, fun p1 hp1 => ?_⟩
      have S2 := same_new (o := .lst [V.int (iMany (iOuts taps s' row))]) hp1
      repeat walk_at "s"
      refine ⟨p1, N, _, _, rfl, rfl, upd_same, S2 _ _ gN, ?_, fun p2 hp2 => ?_⟩
      · rw [List.length_map, List.length_map]
        exact Nat.le_trans (show 1 + (iOuts taps s' row).length ≤ 1001 by omega) (by decide)
      · have S3 := S2.trans (same_new (o := .lst ([V.int (iMany (iOuts taps s' row))] ++ ((iOuts taps s' row).map iHeld).map V.int)) hp2)
        refine k _ p2 (kp.trans (Keep.of S3)) (S3 _ _ gs) ?_ ?_
        · rw [upd_same]
          rfl
        · cases z : H p2 with
          | none => rfl
          | some u =>
            by_cases q : p2 = ls
            · rw [q, S2 _ _ gs] at hp2; cases hp2
            · rw [S2 _ _ (kp _ _ q z)] at hp2; cases hp2
end
end Rt
set_option Elab.async false
set_option linter.all false
set_option maxRecDepth 100000
set_option maxHeartbeats 4000000
namespace Rt
open PySem PySem.Spec PyProof.Rows L2
open C8 (Cal Met Mak pe_c pe_mk pe_mt pe_mt0 pe_gc)
local macro_rules | `(tactic| walk_at "bd") => `(tactic| first
  | assumption | exact Bd.sub (by walk_at "bd") (by walk_at "bd") | exact Bd.add (by walk_at "bd") (by walk_at "bd") | exact Bd.mul (by walk_at "bd") (by walk_at "bd") | exact Bd.neg (by walk_at "bd") | exact Bd.lit (by decide))
local macro_rules | `(tactic| walk_at "r") => `(tactic| with_reducible first
  | refine r_seq ?_ | refine r_ret ?_ | refine r_asg ?_ | refine r_drop ?_ | refine r_op ?_ | refine r_un ?_ | refine r_c ?_ | refine r_cons ?_ | refine r_nil ?_ | refine r_i0 ?_ | refine r_U ?_ | refine r_name ?_ | refine r_if ?_ | refine r_test ?_ | refine r_tB ?_ | refine r_bl ?_
  | refine r_call ?_ | refine r_meth ?_ | refine r_fld ?_ | refine r_tup ?_ | refine r_lst ?_ | refine r_cb ?_ | refine r_andV ?_ | refine r_orV ?_ | refine r_notV ?_ | refine r_and ?_ | refine r_or ?_ | refine r_not ?_ | refine r_eqI ?_ | refine r_neI ?_ | refine r_eqB ?_ | refine r_neB ?_
  | refine r_next ?_ | refine r_par ?_ | refine r_lc ?_ | refine r_yes ?_ | refine r_iList ?_ | refine r_iRng1 ?_ | refine r_lstRg ?_ | refine r_rg1 ?_ | refine r_gcons ?_ | refine r_gnil ?_ | refine r_var (by with_unfolding_all rfl) ?_)
local macro_rules | `(tactic| walk_at "s") => `(tactic| first
  | walk_at "r" | (with_reducible refine r_itT rfl ?_) | (with_reducible refine r_itF rfl ?_) | (with_reducible refine r_ixT (by assumption) (by with_unfolding_all rfl) ?_) | ((with_reducible refine r_iM ?_ ?_); exact bd_mul (by walk_at "bd") (by walk_at "bd") (by decide)) | (with_reducible refine r_gtup (by assumption) (by with_unfolding_all rfl) ?_) | refine RoomAt.meth (by assumption) ?_)
local macro_rules | `(tactic| walk_at "d") => `(tactic| try dsimp only [cxOf, Cx.nox, Cx.wish])

local macro_rules | `(tactic| walk_at "s") => `(tactic| with_reducible first
  | refine r_sl ?_ | refine r_po0 ?_ | refine r_po1 ?_ | refine r_for ?_ | refine r_bm ?_ | refine r_make ?_ | refine r_sfld ?_ | refine r_inl ?_)

local macro_rules | `(tactic| walk_at "s") => `(tactic| with_reducible first
  | refine r_callS ?_ | refine r_methE ?_ | refine r_iRng3 ?_ | refine r_mkO ?_)

def plV (pl : List Int) : List (Key × V) := pl.map fun z => (Sum.inl z, V.bl true)
def plPut (pl : List Int) (z : Int) : List Int := if z ∈ pl then pl else pl ++ [z]
theorem plV_put {pl : List Int} {z : Int} : putK (plV pl) (Sum.inl z) (.bl true) = plV (plPut pl z) := by
  have any : ((plV pl).any fun kv => decide (kv.1 = Sum.inl z)) = decide (z ∈ pl) := by
    unfold plV
    rw [Bool.eq_iff_iff, List.any_eq_true, decide_eq_true_iff]
    constructor
    · rintro ⟨kv, h1, h2⟩
      obtain ⟨y, h3, h4⟩ := List.mem_map.mp h1
      subst h4
      have := Sum.inl.inj (of_decide_eq_true h2)
      rw [← this]
      exact h3
    · intro h
      exact ⟨_, List.mem_map.mpr ⟨z, h, rfl⟩, decide_eq_true rfl⟩
  unfold putK plPut
  rw [any]
  by_cases m : z ∈ pl
  · rw [if_pos (decide_eq_true m), if_pos m]
    unfold plV
    rw [List.map_map]
    refine List.map_congr_left fun y _ => ?_
    show (if _ then _ else _) = _
    split <;> rfl
  · rw [if_neg (by simpa using m), if_neg m]
    unfold plV
    rw [List.map_append]
    rfl
theorem plPut_mem {pl : List Int} {z y : Int} : y ∈ plPut pl z ↔ y ∈ pl ∨ y = z := by
  unfold plPut
  by_cases m : z ∈ pl
  · rw [if_pos m]
    exact ⟨.inl, fun h => h.elim _root_.id fun e => e ▸ m⟩
  · rw [if_neg m, List.mem_append, List.mem_singleton]
theorem plPut_len {pl : List Int} {z : Int} : (plPut pl z).length ≤ pl.length + 1 := by
  unfold plPut
  split
  · omega
  · simp
theorem plV_len {pl : List Int} : (plV pl).length = pl.length := by unfold plV; rw [List.length_map]
/-- a comprehension over a dict's keys, the dict locked -/
theorem lcKeys {d D : Addr} {o : Obj} {pl : List Int} {g : TG} {tt : TT} {te : TE} {vs : List Nat} {σ : L2.St} {H1 : Hp} {Qd : Hp → Prop} {f : Int → V} (hn : H1 D = none) (ha : H1 d = some (.frz o (.dK (plV pl)))) (hz : pl.length ≤ 10000000)
    (hs : ∀ (i : Nat) z H (G : V → Hp → Prop) (F : Hp → Prop), pl[i]? = some z → Same H1 H → (∀ H', Same H H' → G (f z) H') → g (.int z) (wipe σ vs) H fun σ2 H2 => wipe σ2 vs = wipe σ vs ∧ tt σ2 H2 fun b H3 => if b = true then te σ2 H3 G else F H3)
    (hd : ∀ H, Same H1 H → H D = some (.lst (pl.map f)) → Qd H) :
    ∃ W : Nat → Nat → Hp → Prop, (∃ m, W 0 m (upd H1 D (.lst []))) ∧ ∀ i m H, W i m H →
      ((Itk d o (plV pl)).stop i H ∧ Qd H) ∨ ((Itk d o (plV pl)).go i H ∧ ∃ Nx : Hp → Prop, (∀ H', Nx H' → ∃ m', m' < m ∧ W (i + 1) m' H') ∧ ∀ x H', (Itk d o (plV pl)).yld i H x H' → g x (wipe σ vs) H' fun σ2 H2 => wipe σ2 vs = wipe σ vs ∧ tt σ2 H2 fun b H3 =>
        if b = true then te σ2 H3 fun y H4 => ∃ acc, H4 D = some (.lst acc) ∧ acc.length < sizeLine ∧ Nx (upd H4 D (.lst (acc ++ [y]))) else Nx H3) := by
  refine ⟨fun i m H => m = pl.length - i ∧ i ≤ pl.length ∧ Same H1 H ∧ H D = some (.lst ((pl.take i).map f)), ⟨pl.length, rfl, Nat.zero_le _, same_but hn (Same.refl H1), upd_same⟩, ?_⟩
  rintro i m H ⟨rfl, hi, S, e⟩
  have hq := S _ _ ha
  by_cases hlt : i < pl.length
  · have hx : pl[i]? = some pl[i] := List.getElem?_eq_getElem hlt
    refine .inr ⟨⟨hq, by rw [plV_len]; exact hlt⟩, fun H' => i + 1 ≤ pl.length ∧ Same H1 H' ∧ H' D = some (.lst ((pl.take (i + 1)).map f)), fun H' h => ⟨pl.length - (i + 1), by omega, rfl, h.1, h.2.1, h.2.2⟩, fun x H' y => ?_⟩
    obtain ⟨e1, k, v, e2, e3⟩ := y
    subst e1
    unfold plV at e2
    rw [List.getElem?_map, hx] at e2
    cases e2
    subst e3
    refine hs i _ _ _ _ hx S fun H3 S3 => ⟨_, S3 _ _ e, ?_, hlt, same_but hn (S.trans S3), ?_⟩
    · rw [List.length_map, List.length_take]
      exact Nat.lt_of_le_of_lt (show min i pl.length ≤ 10000000 by omega) (by decide)
    · rw [upd_same, take_more hx, List.map_append]
      rfl
  · have ei : i = pl.length := by omega
    subst ei
    rw [List.take_length] at e
    exact .inl ⟨⟨hq, by rw [plV_len]; exact Nat.le_refl _⟩, hd H S e⟩
theorem r_iRng2 {ta : TA} {σ : L2.St} {H : Hp} {R : It → Hp → Prop} (h : ta σ H fun vs H1 => ∃ i j : Int, vs = [.int i, .int j] ∧ (-(2 ^ 62) ≤ i ∧ i < 2 ^ 62 ∧ -(2 ^ 62) ≤ j ∧ j < 2 ^ 62) ∧ R (Itr i (j - i).toNat) H1) : iRng2 ta σ H R := h
theorem r_lock {t : TE} {σ : L2.St} {H : Hp} {Q : VK} (h : ∃ d u, H d = some u ∧ Mut (some u) ∧ ∀ od, t σ (upd H d (.frz od u)) fun v H' => H' d = some (.frz od u) ∧ Q v (upd H' d u)) : tLockE t σ H Q := h
theorem r_keys {td : TE} {σ : L2.St} {H : Hp} {R : It → Hp → Prop} (h : td σ H fun x H1 => ∃ d o, x = .ref d ∧ ((∃ kvs, H1 d = some (.frz o (.dK kvs)) ∧ R (Itk d o kvs) H1) ∨ ∃ kvs, H1 d = some (.frz o (.dT kvs)) ∧ R (Itkt d o kvs) H1)) : iKeys td σ H R := h
section
variable {P : Program} {w : World} {K : PySem.W.Frag} {mg : Str → Option Value} {base : Heap}
def spQuiet (K : PySem.W.Frag) : Sp := fun vs H Q _ => ∃ (a : Addr) (taps : List (Nat × Int)) (s : List Int), vs = [.ref a] ∧ LineAt K H a taps s ∧ LineOk taps s ∧ ∀ H', Same H H' → Q (.bl (iQuiet taps s)) H'
/-- the places of the taps so far -/
def Places (taps : List (Nat × Int)) (now : Nat) (pl : List Int) : Prop := ∀ z : Int, z ∈ pl ↔ ∃ t ∈ taps, ∃ at_ : Nat, at_ < now ∧ now ≤ at_ + t.1 ∧ z = (at_ : Int) + (t.1 : Int)
theorem quiet_law {taps : List (Nat × Int)} {s : List Int} {pl : List Int} (h : Places taps s.length pl) : (pl.map fun z => decide (iOut taps s z = 0)).all _root_.id = iQuiet taps s := by
  rw [Bool.eq_iff_iff, List.all_map, List.all_eq_true]
  unfold iQuiet
  rw [List.all_eq_true]
  constructor
  · intro q t ht
    rw [List.all_eq_true]
    intro at_ hat
    have hat := List.mem_range.mp hat
    rw [Bool.or_eq_true]
    by_cases c : at_ + t.1 < s.length
    · exact .inl (decide_eq_true c)
    · exact .inr (q _ ((h _).mpr ⟨t, ht, at_, hat, by omega, rfl⟩))
  · intro q z hz
    obtain ⟨t, ht, at_, h1, h2, e⟩ := (h z).mp hz
    have := List.all_eq_true.mp (q t ht) at_ (List.mem_range.mpr h1)
    rw [Bool.or_eq_true] at this
    rcases this with c | c
    · have := of_decide_eq_true c
      omega
    · rw [e]
      exact c
theorem ok_Line_is_quiet (T : Tx K mg base) : Met P w K mg base 3 (He.ga K "Line") "is_quiet" (spQuiet K) [] := by
  refine mkM T.f_Line_is_quiet T.k_Line T.t_Line_is_quiet sc_Line_is_quiet (fun _ _ _ _ _ _ us hl => match us, hl with | [_], _ => rfl) (fun vs H Q E h => ?_) (fun f cdv A outer s H vs Q E hr h => ⟨_, (pss_cons (ps_set (i := 1) sc_Line_is_quiet.nd rfl (Or.inl rfl) (pe_callB call_len_seq (by rfl) T.n_len PySem.boot_len (pa_cons (pe_fld (pv 0) rfl) pa_nil)))
      (pss_cons (ps_set (i := 2) sc_Line_is_quiet.nd rfl (Or.inl rfl) pe_dnewK)
      (pss_cons (ps_for PassesOwn.never rfl (pi_list (pe_fld (pv 0) rfl)) (pg_tup rfl (pgs_cons (pg_name (i := 3) sc_Line_is_quiet.nd rfl (Or.inl rfl)) (pgs_cons (pg_name (i := 4) sc_Line_is_quiet.nd rfl (Or.inl rfl)) pgs_nil))) (pss_one (ps_for PassesOwn.never rfl (pi_range2 (by rfl) T.n_range (pa_cons (pe_callB (call_max2 rfl) (by rfl) T.n_max (by decide +kernel) (pa_cons pe_int (pa_cons (pe_op op_sub (pv 1) (pv 3)) pa_nil))) (pa_cons (pv 1) pa_nil))) (pg_name (i := 5) sc_Line_is_quiet.nd rfl (Or.inl rfl)) (pss_one (ps_dput (hu_of hr) (pv 2) (pe_op op_add (pv 5) (pv 3)) pe_bl rfl)))))
      (pss_one (ps_ret (pe_callB (cr_all rfl) (by rfl) T.n_all (by decide +kernel) (pa_cons (pe_lock (pe_lc (own := [("n", 6)]) rfl sc_Line_is_quiet.nd (pi_keys (pv 2)) (blkOk_by (own := [("n", 6)]) (N := ["self", "now", "places", "delay", "gain", "at", "n"]) (sc := defScope s_Line_is_quiet) (by decide +kernel)) (fun _ _ _ _ _ => (pg_name (i := 6) sc_Line_is_quiet.nd rfl (Or.inl rfl))) (fun _ _ _ _ _ => pts_nil) (fun _ _ _ _ _ => (pe_cmpR op_eq (pe_mt (ok_Line_out T) hr (by decide) (pv 0) (pa_cons (pv 6) pa_nil)) pe_int (nomark _))))) pa_nil))))))), ?_⟩)
  · obtain ⟨a, taps, s, rfl, _⟩ := h
    rfl
  · obtain ⟨a, taps, s', rfl, hL, ok, k⟩ := h
    obtain ⟨dx, lt, ls, h1, h2, h3, h4⟩ := id hL
    obtain ⟨ts, g1, g2, g3⟩ := h2
    have s3 := ok.s3
    have t4 := ok.t4
    walk_at "d"
    repeat walk_at "s"
    refine ⟨_, _, _, _, _, rfl, h1, T.k_Line, T.a_Line_samples, (lk_past (by decide +kernel)).trans lk_here, ?_⟩
    repeat walk_at "s"
    refine ⟨_, _, rfl, .inl (SqL.of h3), ?_⟩
    rw [List.length_map]
    generalize hnow : s'.length = now at *
    repeat walk_at "s"
    intro G hG
    have S1 := same_new (o := .dK []) hG
    have gG : upd H G (.dK []) G = some (.dK (plV [])) := upd_same
    generalize upd H G (.dK []) = H1 at *
    repeat walk_at "s"
    refine ⟨_, _, _, _, _, rfl, S1 _ _ h1, T.k_Line, T.a_Line_taps, lk_here, ?_⟩
    refine ⟨lt, rfl, ⟨_, SqL.of (S1 _ _ g1)⟩, ?_⟩
    refine for_list (xs := ts.map V.ref) (fun i σ H' => ∃ (x3 x4 x5 x6 : Option V) (pl : List Int), σ = [some (.ref a), some (.int (now : Int)), some (.ref G), x3, x4, x5, x6] ∧ Same H H' ∧ H' G = some (.dK (plV pl)) ∧ pl.length ≤ i * now ∧ Places (taps.take i) now pl)
      ⟨_, _, _, _, [], rfl, S1, gG, Nat.zero_le _, fun z => by simp⟩ (fun i σ H' hi z => ?_) (fun i x σ H' hx z => ?_) (fun σ H' z => ?_)
    · obtain ⟨x3, x4, x5, x6, pl, rfl, S, _⟩ := z
      exact SqL.of (S _ _ g1)
    · obtain ⟨x3, x4, x5, x6, pl, rfl, S, gG, plen, pls⟩ := z
      rw [List.getElem?_map] at hx
      cases et : ts[i]? with
      | none => rw [et] at hx; cases hx
      | some t =>
      rw [et] at hx
      cases hx
      have hi : i < taps.length := by
        rw [← g2]
        exact (List.getElem?_eq_some_iff.mp et).1
      have ep : taps[i]? = some taps[i] := List.getElem?_eq_getElem hi
      have tg := S.tup (g3 i t _ et ep)
      have td := ok.td _ (List.mem_of_getElem? ep)
      rw [take_more ep]
      generalize taps[i] = p at *
      have plb : i * now ≤ 4095 * 1000 := Nat.mul_le_mul (by omega) (by omega)
      refine r_gtup tg rfl ?_
      repeat walk_at "s"
      refine r_iRng2 ?_
      repeat walk_at "s"
      refine ⟨_, _, rfl, ?_⟩
      rw [show (if ((now : Int) - (p.1 : Int)) > 0 then ((now : Int) - (p.1 : Int)) else 0) = ((now - p.1 : Nat) : Int) by split <;> omega]
      repeat walk_at "s"
      refine ⟨_, _, rfl, ⟨by omega, by omega, by omega, by omega⟩, ?_⟩
      rw [show ((now : Int) - ((now - p.1 : Nat) : Int)).toNat = now - (now - p.1) by omega]
      refine for_range (lo := ((now - p.1 : Nat) : Int)) (n := now - (now - p.1)) (fun m σ H' => ∃ (x5 x6 : Option V) (pl' : List Int), σ = [some (.ref a), some (.int (now : Int)), some (.ref G), some (.int (p.1 : Int)), some (.int p.2), x5, x6] ∧ Same H H' ∧ H' G = some (.dK (plV pl')) ∧ pl'.length ≤ i * now + m ∧
        ∀ z : Int, z ∈ pl' ↔ z ∈ pl ∨ ∃ j, j < m ∧ z = (((now - p.1) + j + p.1 : Nat) : Int)) ⟨_, _, pl, rfl, S, gG, plen, fun z => by simp⟩ (fun m σ H2 hm z => ?_) (fun σ H2 z => ?_)
      · obtain ⟨x5, x6, pl', rfl, S2, gG2, pl2, mem⟩ := z
        repeat walk_at "s"
        refine r_dput ?_
        repeat walk_at "s"
        refine ⟨G, _, rfl, DPut.k (k := Sum.inl (((now - p.1 : Nat) : Int) + (m : Int) + (p.1 : Int))) gG2 (by rw [plV_len]; exact Nat.lt_of_le_of_lt (show pl'.length ≤ 10000000 by omega) (by decide)), ?_⟩
        rw [plV_put]
        refine ⟨_, _, _, rfl, same_put S2 hG, upd_same, Nat.le_trans plPut_len (by omega), fun z => ?_⟩
        rw [plPut_mem, mem]
        constructor
        · rintro ((q | ⟨j, q, e⟩) | q)
          · exact .inl q
          · exact .inr ⟨j, by omega, e⟩
          · exact .inr ⟨m, by omega, by omega⟩
        · rintro (q | ⟨j, q, e⟩)
          · exact .inl (.inl q)
          · by_cases c : j < m
            · exact .inl (.inr ⟨j, c, e⟩)
            · exact .inr (by omega)
      · obtain ⟨x5, x6, pl', rfl, S2, gG2, pl2, mem⟩ := z
        refine ⟨_, _, _, _, pl', rfl, S2, gG2, by rw [Nat.add_mul]; omega, fun z => ?_⟩
        rw [mem]
        constructor
        · rintro (q | ⟨j, q, e⟩)
          · obtain ⟨t', ht', r⟩ := (pls z).mp q
            exact ⟨t', List.mem_append_left _ ht', r⟩
          · exact ⟨p, by simp, (now - p.1) + j, by omega, by omega, by omega⟩
        · rintro ⟨t', ht', at_, q1, q2, q3⟩
          rcases List.mem_append.mp ht' with ht' | ht'
          · exact .inl ((pls z).mpr ⟨t', ht', at_, q1, q2, q3⟩)
          · rw [List.mem_singleton.mp ht'] at q2 q3
            exact .inr ⟨at_ - (now - p.1), by omega, by omega⟩
    · obtain ⟨x3, x4, x5, x6, pl, rfl, S, gG, plen, pls⟩ := z
      rw [List.length_map, g2, List.take_length] at pls
      rw [List.length_map, g2] at plen
      have plb : taps.length * now ≤ 4096 * 1000 := Nat.mul_le_mul t4 (by omega)
      repeat walk_at "s"
      refine r_lock ⟨G, _, gG, trivial, fun od => ?_⟩
      have S2 : Same H (upd H' G (.frz od (.dK (plV pl)))) := same_put S hG
      have gz : upd H' G (.frz od (.dK (plV pl))) G = some (.frz od (.dK (plV pl))) := upd_same
      generalize hH2 : upd H' G (.frz od (.dK (plV pl))) = H2 at *
      repeat walk_at "s"
      refine r_keys ?_
      repeat walk_at "s"
      refine ⟨G, od, rfl, .inl ⟨_, gz, fun D hD => ?_⟩⟩
      refine lcKeys (pl := pl) (f := fun z => .bl (decide (iOut taps s' z = 0))) hD gz (by omega) (fun i z H3 G3 F hz S3 h => ?_) (fun H3 S3 e => ?_)
      · refine ⟨rfl, ?_⟩
        refine r_yes ?_
        refine r_itT rfl ?_
        have hL3 := hL.same (S2.trans S3)
        repeat walk_at "s"
        refine LineAt.meth hL3 ?_
        repeat walk_at "s"
        refine ⟨a, taps, s', z, rfl, hL3, ok, fun H4 S4 => ?_⟩
        repeat walk_at "s"
        exact h _ S4
      · refine ⟨S3 _ _ gz, ?_⟩
        have nDG : D ≠ G := fun q => by rw [q, gz] at hD; cases hD
        repeat walk_at "s"
        have e2 : upd H3 G (.dK (plV pl)) D = some (.lst ((pl.map fun z => decide (iOut taps s' z = 0)).map V.bl)) := by
          rw [upd_ne nDG, e, List.map_map]
          rfl
        refine ⟨D, _, rfl, SqL.of e2, ?_⟩
        subst hnow
        rw [quiet_law pls]
        exact k _ (same_put (S2.trans S3) hG)
end
end Rt
set_option Elab.async false
set_option linter.all false
set_option maxRecDepth 100000
set_option maxHeartbeats 4000000
namespace Rt
open PySem PySem.Spec PyProof.Rows L2
open C8 (Cal Met Mak pe_c pe_mk pe_mt pe_mt0 pe_gc)
local macro_rules | `(tactic| walk_at "bd") => `(tactic| first
  | assumption | exact Bd.sub (by walk_at "bd") (by walk_at "bd") | exact Bd.add (by walk_at "bd") (by walk_at "bd") | exact Bd.mul (by walk_at "bd") (by walk_at "bd") | exact Bd.neg (by walk_at "bd") | exact Bd.lit (by decide))
local macro_rules | `(tactic| walk_at "r") => `(tactic| with_reducible first
  | refine r_seq ?_ | refine r_ret ?_ | refine r_asg ?_ | refine r_drop ?_ | refine r_op ?_ | refine r_un ?_ | refine r_c ?_ | refine r_cons ?_ | refine r_nil ?_ | refine r_i0 ?_ | refine r_U ?_ | refine r_name ?_ | refine r_if ?_ | refine r_test ?_ | refine r_tB ?_ | refine r_bl ?_
  | refine r_call ?_ | refine r_meth ?_ | refine r_fld ?_ | refine r_tup ?_ | refine r_lst ?_ | refine r_cb ?_ | refine r_andV ?_ | refine r_orV ?_ | refine r_notV ?_ | refine r_and ?_ | refine r_or ?_ | refine r_not ?_ | refine r_eqI ?_ | refine r_neI ?_ | refine r_eqB ?_ | refine r_neB ?_
  | refine r_next ?_ | refine r_par ?_ | refine r_lc ?_ | refine r_yes ?_ | refine r_iList ?_ | refine r_iRng1 ?_ | refine r_lstRg ?_ | refine r_rg1 ?_ | refine r_gcons ?_ | refine r_gnil ?_ | refine r_var (by with_unfolding_all rfl) ?_)
local macro_rules | `(tactic| walk_at "s") => `(tactic| first
  | walk_at "r" | (with_reducible refine r_itT rfl ?_) | (with_reducible refine r_itF rfl ?_) | (with_reducible refine r_ixT (by assumption) (by with_unfolding_all rfl) ?_) | ((with_reducible refine r_iM ?_ ?_); exact bd_mul (by walk_at "bd") (by walk_at "bd") (by decide)) | (with_reducible refine r_gtup (by assumption) (by with_unfolding_all rfl) ?_) | refine RoomAt.meth (by assumption) ?_)
local macro_rules | `(tactic| walk_at "d") => `(tactic| try dsimp only [cxOf, Cx.nox, Cx.wish])

local macro_rules | `(tactic| walk_at "s") => `(tactic| with_reducible first
  | refine r_sl ?_ | refine r_po0 ?_ | refine r_po1 ?_ | refine r_for ?_ | refine r_bm ?_ | refine r_make ?_ | refine r_sfld ?_ | refine r_inl ?_)

local macro_rules | `(tactic| walk_at "s") => `(tactic| with_reducible first
  | refine r_callS ?_ | refine r_methE ?_ | refine r_iRng3 ?_ | refine r_mkO ?_)

def iRate (r s : Int) : Bool := decide (1 ≤ r) && (decide (r ≤ 192000) && (decide (1 ≤ s) && decide (s ≤ 1048576)))
def flatT (taps : List (Nat × Int)) : List Int := taps.flatMap fun t => [(t.1 : Int), t.2]
theorem flatT_len (taps : List (Nat × Int)) : (flatT taps).length = 2 * taps.length := by
  unfold flatT
  induction taps with
  | nil => rfl
  | cons t r ih =>
    rw [List.flatMap_cons, List.length_append, ih]
    show 2 + 2 * r.length = 2 * (r.length + 1)
    omega
section
variable {P : Program} {w : World} {K : PySem.W.Frag} {mg : Str → Option Value} {base : Heap}
def spRate : Sp := fun vs H Q _ => ∃ r s : Int, vs = [.int r, .int s] ∧ Q (.bl (iRate r s)) H
theorem ok_is_rate (T : Tx K mg base) : Cal P w K mg base 1 "is_rate" spRate [] := by
  refine mkC T.f_is_rate T.g_is_rate sc_is_rate (fun _ _ _ _ _ _ us hl => match us, hl with | [_, _], _ => rfl) (fun vs H Q E h => ?_) (fun f cdv A outer s H vs Q E hr h => ⟨_, (pss_one (ps_ret (pe_and (pe_cmpR op_ge (pv 0) pe_int (nomark _)) (pe_and (pe_cmpR op_le (pv 0) (pe_gc rfl T.c_MOST_RATE) (nomark _)) (pe_and (pe_cmpR op_ge (pv 1) pe_int (nomark _)) (pe_one (pe_cmpR op_le (pv 1) (pe_gc rfl T.c_MOST_SPEED) (nomark _)))))))), ?_⟩)
  · obtain ⟨r, s, rfl, _⟩ := h
    rfl
  · obtain ⟨r, s', rfl, k⟩ := h
    unfold iRate at k
    walk_at "d"
    repeat walk_at "s"
    refine r_iteB (fun c => ?_) fun c => ?_
    · rw [c, Bool.true_and] at k
      repeat walk_at "s"
      refine r_iteB (fun c => ?_) fun c => ?_
      · rw [c, Bool.true_and] at k
        repeat walk_at "s"
        refine r_iteB (fun c => ?_) fun c => ?_
        · rw [c, Bool.true_and] at k
          repeat walk_at "s"
          exact k
        · rw [c] at k
          exact k
      · rw [c] at k
        exact k
    · rw [c] at k
      exact k
def spFlat (K : PySem.W.Frag) : Sp := fun vs H Q _ => ∃ (l : Addr) (taps : List (Nat × Int)), vs = [.ref l] ∧ TapsAt K H l taps ∧ taps.length ≤ 5000 ∧ ∀ H' D, Same H H' → H' D = some (.lst ((flatT taps).map V.int)) → H D = none → Q (.ref D) H'
theorem ok_flat (T : Tx K mg base) : Cal P w K mg base 1 "flat" (spFlat K) [] := by
  refine mkC T.f_flat T.g_flat sc_flat (fun _ _ _ _ _ _ us hl => match us, hl with | [_], _ => rfl) (fun vs H Q E h => ?_) (fun f cdv A outer s H vs Q E hr h => ⟨_, (pss_cons (ps_set (i := 1) sc_flat.nd rfl (Or.inl rfl) (pe_lst pa_nil))
      (pss_cons (ps_for PassesOwn.never rfl (pi_list (pv 0)) (pg_tup rfl (pgs_cons (pg_name (i := 2) sc_flat.nd rfl (Or.inl rfl)) (pgs_cons (pg_name (i := 3) sc_flat.nd rfl (Or.inl rfl)) pgs_nil))) (pss_one (ps_expr (pe_bm PySem.F.plainAttrs_list PySem.F.slot_list_extend PySem.F.type_list_extend mt_extend (pv 1) (pa_cons (pe_lst (pa_cons (pv 2) (pa_cons (pv 3) pa_nil))) pa_nil)))))
      (pss_one (ps_ret (pv 1))))), ?_⟩)
  · obtain ⟨l, taps, rfl, _⟩ := h
    rfl
  · obtain ⟨l, taps, rfl, hT, big, k⟩ := h
    obtain ⟨ts, g1, g2, g3⟩ := hT
    walk_at "d"
    repeat walk_at "s"
    refine ⟨sz0, fun D hD => ?_⟩
    have S1 := same_new (o := .lst []) hD
    have gD : upd H D (.lst []) D = some (.lst []) := upd_same
    generalize upd H D (.lst []) = H1 at *
    repeat walk_at "s"
    refine ⟨l, rfl, ⟨_, SqL.of (S1 _ _ g1)⟩, ?_⟩
    refine for_list (xs := ts.map V.ref) (fun i σ H' => ∃ (x2 x3 : Option V), σ = [some (.ref l), some (.ref D), x2, x3] ∧ Same H H' ∧ H' D = some (.lst ((flatT (taps.take i)).map V.int))) ⟨_, _, rfl, S1, gD⟩ (fun i σ H' hi z => ?_) (fun i x σ H' hx z => ?_) (fun σ H' z => ?_)
    · obtain ⟨x2, x3, rfl, S, _⟩ := z
      exact SqL.of (S _ _ g1)
    · obtain ⟨x2, x3, rfl, S, gD⟩ := z
      rw [List.getElem?_map] at hx
      cases et : ts[i]? with
      | none => rw [et] at hx; cases hx
      | some t =>
      rw [et] at hx
      cases hx
      have hi : i < taps.length := by
        rw [← g2]
        exact (List.getElem?_eq_some_iff.mp et).1
      have ep : taps[i]? = some taps[i] := List.getElem?_eq_getElem hi
      have tg := S.tup (g3 i t _ et ep)
      have fl := flatT_len (taps.take i)
      rw [List.length_take] at fl
      rw [take_more ep, show flatT (taps.take i ++ [taps[i]]) = flatT (taps.take i) ++ [((taps[i]).1 : Int), (taps[i]).2] by unfold flatT; rw [List.flatMap_append]; rfl]
      generalize taps[i] = p at *
      generalize flatT (taps.take i) = fs at *
      refine r_gtup tg rfl ?_
      repeat walk_at "s"
      refine ⟨tyl gD, ?_⟩
      repeat walk_at "s"
      refine ⟨sz2, fun q hq => ?_⟩
      have S2 := same_new (o := .lst [V.int (p.1 : Int), V.int p.2]) hq
      repeat walk_at "s"
      refine ⟨D, q, _, _, rfl, rfl, S2 _ _ gD, upd_same, ?_, ?_⟩
      · rw [List.length_map]
        exact Nat.le_trans (show fs.length + 2 ≤ 100000 by omega) (by decide)
      · refine r_next ?_
        refine ⟨_, _, rfl, same_put (S.trans S2) hD, ?_⟩
        rw [upd_same, List.map_append]
        rfl
    · obtain ⟨x2, x3, rfl, S, gD⟩ := z
      rw [List.length_map, g2, List.take_length] at gD
      repeat walk_at "s"
      exact k _ D S gD hD
end
end Rt
set_option Elab.async false
set_option linter.all false
set_option maxRecDepth 100000
set_option maxHeartbeats 4000000
namespace Rt
open PySem PySem.Spec PyProof.Rows L2
/-! ### xs[::2] -/
theorem fm_congr {α β : Type} {f g : α → Option β} : ∀ {l : List α}, (∀ x ∈ l, f x = g x) → l.filterMap f = l.filterMap g
  | [], _ => rfl
  | x :: l, h => by rw [List.filterMap_cons, List.filterMap_cons, h x List.mem_cons_self, fm_congr fun y hy => h y (List.mem_cons_of_mem _ hy)]
def evensOf {α : Type} (xs : List α) : List α := ((List.range ((xs.length + 1) / 2)).map fun k => 2 * k).filterMap fun i => xs[i]?
theorem vals_pick {xs : List V} {us : List Value} (r : Vals xs us) : ∀ ks : List Nat, Vals (ks.filterMap fun i => xs[i]?) (ks.filterMap fun i => us[i]?)
  | [] => .nil
  | k :: ks => by
    have ih := vals_pick r ks
    have hl := r.length
    rw [List.filterMap_cons, List.filterMap_cons]
    cases e : xs[k]? with
    | none =>
      have : us[k]? = none := List.getElem?_eq_none (by have := List.getElem?_eq_none_iff.mp e; omega)
      rw [this]
      exact ih
    | some x =>
      obtain ⟨u, hu, ru⟩ := r.get e
      rw [hu]
      exact .cons ru ih
theorem pick_evens (its : List Value) : slicePick its.toArray none none (some 2) = (evensOf its).toArray := by
  unfold slicePick evensOf
  have e : sliceRange (sliceBounds none none (some 2) its.toArray.size).1 (sliceBounds none none (some 2) its.toArray.size).2.1 (sliceBounds none none (some 2) its.toArray.size).2.2 = (List.range ((its.length + 1) / 2)).map fun k => 2 * k := by
    show sliceRange 0 (its.toArray.size : Int) 2 = _
    rw [List.size_toArray]
    unfold sliceRange
    rw [if_pos (by decide)]
    have ec : (if (0 : Int) < (its.length : Int) then ((its.length : Int) - 0 + 2 - 1) / 2 else 0).toNat = (its.length + 1) / 2 := by split <;> omega
    dsimp only
    rw [ec]
    refine List.map_congr_left fun k _ => ?_
    omega
  rw [e]
  congr 1
  refine fm_congr fun i _ => ?_
  simp
theorem evens_len {α : Type} (xs : List α) : (evensOf xs).length ≤ xs.length := by
  unfold evensOf
  refine Nat.le_trans (List.length_filterMap_le _ _) ?_
  rw [List.length_map, List.length_range]
  omega
def tEvens (K : PySem.W.Frag) (te : TE) : TE := fun σ H Q => te σ H fun x H1 => ∃ a xs, x = .ref a ∧ SqL K H1 a xs ∧ ∀ p, H1 p = none → Q (.ref p) (upd H1 p (.lst (evensOf xs)))
theorem pe_evens {X : Cx} {e : Expr} {te : TE} {k : Nat} {p1 p3 pos : Pos} (he : PE X e te) : PE X (.Subscript e (.Slice none none (some (.Constant (.int 2) k p1)) p3) pos) (tEvens X.K te) := by
  refine ⟨fun pins s σ H Q I h => ?_⟩
  refine Subscript_ (thn (he.run pins s σ H _ I h) fun v s1 ⟨x, H1, I1, r1, q1⟩ => ?_)
  obtain ⟨a, xs, ex, hx, q⟩ := q1
  subst ex
  cases r1
  have hst : PO X (some (.Constant (.int 2) k p1)) (tPart (tC (.int 2))) := po_some pe_int
  refine wpAny_Slice (thn (po_none.run pins s1 σ H1 (fun o H2 => o = none ∧ H2 = H1) I1 ⟨rfl, rfl⟩) fun vl s2 ⟨l, H2, I2, pl, el, e2⟩ => ?_)
  subst el e2
  refine thn (po_none.run pins s2 σ H2 (fun o H3 => o = none ∧ H3 = H2) I2 ⟨rfl, rfl⟩) fun vu s3 ⟨u, H3, I3, pu, eu, e3⟩ => ?_
  subst eu e3
  refine thn (hst.run pins s3 σ H3 (fun o H4 => o = some 2 ∧ H4 = H3) I3 ⟨2, rfl, rfl, rfl⟩) fun vs s4 ⟨o, H4, I4, ps, eo, e4⟩ => ?_
  subst eo e4
  have I5 : Inv X pins σ H4 { s4 with heap := s4.heap.push { cls := .type "slice", data := .fields #[vl, vu, vs] } } := I4.kept (t' := s4.toks) fun b ob q => Heap.get?_push_of_some _ q
  obtain ⟨its, r, ht, hz⟩ := I5.list hx
  have hlen := r.length
  show wpAny (model X.prog X.w) X.A (subscriptTail e (.Slice none none (some (.Constant (.int 2) k p1)) p3) (.ref a) (.ref s4.heap.objs.size)) (EP X pins σ Q) X.xe { s4 with heap := s4.heap.push { cls := .type "slice", data := .fields #[vl, vu, vs] } }
  refine tail_any (ops := [.ref a, .ref s4.heap.objs.size]) ht.isList.typeIs (PySem.slot_list_getitem.lookup) ?_ (by with_unfolding_all rfl)
  refine wpAny_getItem_list_slice ht.isList (Heap.IsSliceOf.new _ vl vu vs) pl pu ps (by decide) ?_ (by rw [List.size_toArray]; omega)
  rw [pick_evens]
  refine ⟨.ref _, _, I5.laid (t' := s4.toks) (o := .lst (evensOf xs)) (fun b ob q => Heap.get?_push_of_some _ q) (Nat.le_refl _) ?_, rfl, q _ (I5.hok.fresh (Nat.le_refl _))⟩
  refine ⟨Nat.le_trans (evens_len xs) hz, evensOf its, 0, ?_, Heap.get?_push_size _ rfl⟩
  have h := vals_pick r ((List.range ((xs.length + 1) / 2)).map fun k => 2 * k)
  unfold evensOf
  rw [← hlen]
  exact h
theorem r_evens {K : PySem.W.Frag} {te : TE} {σ : L2.St} {H : Hp} {Q : VK} (h : te σ H fun x H1 => ∃ a xs, x = .ref a ∧ SqL K H1 a xs ∧ ∀ p, H1 p = none → Q (.ref p) (upd H1 p (.lst (evensOf xs)))) : tEvens K te σ H Q := h
theorem evens_map {α β : Type} (f : α → β) (xs : List α) : evensOf (xs.map f) = (evensOf xs).map f := by
  unfold evensOf
  rw [List.length_map, List.map_filterMap]
  refine fm_congr fun i _ => ?_
  rw [List.getElem?_map]
end Rt
set_option Elab.async false
set_option linter.all false
set_option maxRecDepth 100000
set_option maxHeartbeats 4000000
namespace Rt
open PySem PySem.Spec PyProof.Rows L2
open C8 (Cal Met Mak pe_c pe_mk pe_mt pe_mt0 pe_gc)
local macro_rules | `(tactic| walk_at "bd") => `(tactic| first
  | assumption | exact Bd.sub (by walk_at "bd") (by walk_at "bd") | exact Bd.add (by walk_at "bd") (by walk_at "bd") | exact Bd.mul (by walk_at "bd") (by walk_at "bd") | exact Bd.neg (by walk_at "bd") | exact Bd.lit (by decide))
local macro_rules | `(tactic| walk_at "r") => `(tactic| with_reducible first
  | refine r_seq ?_ | refine r_ret ?_ | refine r_asg ?_ | refine r_drop ?_ | refine r_op ?_ | refine r_un ?_ | refine r_c ?_ | refine r_cons ?_ | refine r_nil ?_ | refine r_i0 ?_ | refine r_U ?_ | refine r_name ?_ | refine r_if ?_ | refine r_test ?_ | refine r_tB ?_ | refine r_bl ?_
  | refine r_call ?_ | refine r_meth ?_ | refine r_fld ?_ | refine r_tup ?_ | refine r_lst ?_ | refine r_cb ?_ | refine r_andV ?_ | refine r_orV ?_ | refine r_notV ?_ | refine r_and ?_ | refine r_or ?_ | refine r_not ?_ | refine r_eqI ?_ | refine r_neI ?_ | refine r_eqB ?_ | refine r_neB ?_
  | refine r_next ?_ | refine r_par ?_ | refine r_lc ?_ | refine r_yes ?_ | refine r_iList ?_ | refine r_iRng1 ?_ | refine r_lstRg ?_ | refine r_rg1 ?_ | refine r_gcons ?_ | refine r_gnil ?_ | refine r_var (by with_unfolding_all rfl) ?_)
local macro_rules | `(tactic| walk_at "s") => `(tactic| first
  | walk_at "r" | (with_reducible refine r_itT rfl ?_) | (with_reducible refine r_itF rfl ?_) | (with_reducible refine r_ixT (by assumption) (by with_unfolding_all rfl) ?_) | ((with_reducible refine r_iM ?_ ?_); exact bd_mul (by walk_at "bd") (by walk_at "bd") (by decide)) | (with_reducible refine r_gtup (by assumption) (by with_unfolding_all rfl) ?_) | refine RoomAt.meth (by assumption) ?_)
local macro_rules | `(tactic| walk_at "d") => `(tactic| try dsimp only [cxOf, Cx.nox, Cx.wish])

local macro_rules | `(tactic| walk_at "s") => `(tactic| with_reducible first
  | refine r_sl ?_ | refine r_po0 ?_ | refine r_po1 ?_ | refine r_for ?_ | refine r_bm ?_ | refine r_make ?_ | refine r_sfld ?_ | refine r_inl ?_)

local macro_rules | `(tactic| walk_at "s") => `(tactic| with_reducible first
  | refine r_callS ?_ | refine r_methE ?_ | refine r_iRng3 ?_ | refine r_mkO ?_)

/-- how a call ends: its answer's numbers, new; or a refusal with its numbers -/
def OutE (K : PySem.W.Frag) (Q : VK) (E : XK) (H : Hp) : Except (List Int) (List Int) → Prop
  | .ok l => ∀ H' D, Same H H' → H' D = some (.lst (l.map V.int)) → H D = none → Q (.ref D) H'
  | .error l => ∀ H' d D, Same H H' → H' D = some (.lst (l.map V.int)) → H' d = some (.xd (refF (.ref D))) → H d = none → E (.ref (He.ga K "Refused")) (some d) H'
theorem outE_must {K : PySem.W.Frag} {Q Q' : VK} {E : XK} {H H1 : Hp} {N : Addr} {so : Bool} {l : List Int} (S : Same H H1) (gN : H1 N = some (.lst (l.map V.int))) (h1 : so = true → Q' .non H1) (h2 : so = false → OutE K Q E H (.error l)) : spMustT (He.ga K "Refused") [.bl so, .ref N] H1 Q' E := by
  refine ⟨so, _, rfl, h1, fun e d hd => ?_⟩
  have nd : N ≠ d := fun q => by rw [q, hd] at gN; cases gN
  refine h2 e (upd H1 d (.xd (refF (.ref N)))) d N (S.trans (same_new hd)) ((upd_ne nd).trans gN) upd_same ?_
  cases z : H d with
  | none => rfl
  | some u => rw [S _ _ z] at hd; cases hd
/-- the call 1 -/
def iCall1 (q a b : Nat) : Except (List Int) (List Int) :=
  if iRate (a : Int) (b : Int) = false then .error [-1] else if 1099511627776 < q then .error [-4] else if 262143 < iDelay q a b then .error [-4] else .ok [0, (iDelay q a b : Nat)]
section
variable {P : Program} {w : World} {K : PySem.W.Frag} {mg : Str → Option Value} {base : Heap}
def spCall1 (K : PySem.W.Frag) : Sp := fun vs H Q E => ∃ (l : Addr) (q a b : Nat), vs = [.ref l] ∧ SqL K H l [.int (q : Int), .int (a : Int), .int (b : Int)] ∧ OutE K Q E H (iCall1 q a b)
theorem ok_delay (T : Tx K mg base) : CalE (L2.CX P w) P w K mg base 5 "delay" (spCall1 K) := by
  refine mkE T.f_delay T.g_delay sc_delay (fun _ _ _ _ _ _ us hl => match us, hl with | [_], _ => rfl) (fun vs H Q E h => ?_) (fun f cdv A outer s H vs Q E hr h => ⟨_, (pss_cons (ps_asg (pv 0) (pg_lst rfl (pgs_cons (pg_name (i := 1) sc_delay.nd rfl (Or.inl rfl)) (pgs_cons (pg_name (i := 2) sc_delay.nd rfl (Or.inl rfl)) (pgs_cons (pg_name (i := 3) sc_delay.nd rfl (Or.inl rfl)) pgs_nil)))))
      (pss_cons (ps_expr (pe_cE (ok_must_taps T) hr (by decide) rfl (fun σ => L2.passAt (L2.takes_of rfl rfl rfl rfl) σ) (pa_cons (pe_c (ok_is_rate T) hr (by decide) rfl (pa_cons (pv 2) (pa_cons (pv 3) pa_nil))) (pa_cons (pe_lst (pa_cons (pe_un un_neg pe_int) pa_nil)) pa_nil))))
      (pss_cons (ps_expr (pe_cE (ok_must_taps T) hr (by decide) rfl (fun σ => L2.passAt (L2.takes_of rfl rfl rfl rfl) σ) (pa_cons (pe_cmpR op_le (pv 1) (pe_gc rfl T.c_MOST_SQUARE) (nomark _)) (pa_cons (pe_lst (pa_cons (pe_un un_neg pe_int) pa_nil)) pa_nil))))
      (pss_cons (ps_set (i := 4) sc_delay.nd rfl (Or.inl rfl) (pe_c (ok_delay_of T) hr (by decide) rfl (pa_cons (pv 1) (pa_cons (pv 2) (pa_cons (pv 3) pa_nil)))))
      (pss_cons (ps_expr (pe_cE (ok_must_taps T) hr (by decide) rfl (fun σ => L2.passAt (L2.takes_of rfl rfl rfl rfl) σ) (pa_cons (pe_cmpR op_le (pv 4) (pe_gc rfl T.c_MOST_DELAY) (nomark _)) (pa_cons (pe_lst (pa_cons (pe_un un_neg pe_int) pa_nil)) pa_nil))))
      (pss_one (ps_ret (pe_lst (pa_cons pe_int (pa_cons (pv 4) pa_nil)))))))))), ?_⟩)
  · obtain ⟨l, q, a, b, rfl, _⟩ := h
    rfl
  · obtain ⟨l, q, a, b, rfl, hl, k⟩ := h
    walk_at "d"
    repeat walk_at "s"
    refine r_glst hl rfl ?_
    repeat walk_at "s"
    refine ⟨_, _, rfl, ?_⟩
    repeat walk_at "s"
    refine ⟨szA, fun N hN => ?_⟩
    have S1 := same_new (o := .lst [V.int (-1)]) hN
    have gN : upd H N (.lst [V.int (-1)]) N = some (.lst ([(-1 : Int)].map V.int)) := upd_same
    generalize upd H N (.lst [V.int (-1)]) = H1 at *
    repeat walk_at "s"
    unfold iCall1 at k
    refine outE_must S1 gN (fun c1 => ?_) (fun c1 => by rw [if_pos c1] at k; exact k)
    rw [if_neg (by rw [c1]; decide)] at k
    repeat walk_at "s"
    refine ⟨szA, fun N2 hN2 => ?_⟩
    have S2 := S1.trans (same_new (o := .lst [V.int (-4)]) hN2)
    have gN2 : upd H1 N2 (.lst [V.int (-4)]) N2 = some (.lst ([(-4 : Int)].map V.int)) := upd_same
    generalize upd H1 N2 (.lst [V.int (-4)]) = H2 at *
    repeat walk_at "s"
    refine outE_must S2 gN2 (fun c2 => ?_) (fun c2 => by
      have := of_decide_eq_false c2
      rw [if_pos (by omega)] at k; exact k)
    have c2 := of_decide_eq_true c2
    rw [if_neg (by omega)] at k
    unfold iRate at c1
    simp only [Bool.and_eq_true, decide_eq_true_eq] at c1
    have e100 : (2 : Nat) ^ 100 = 1267650600228229401496703205376 := by decide
    repeat walk_at "s"
    refine ⟨q, a, b, rfl, by omega, bdN (by omega), bdN (by omega), bdN (by omega), ?_⟩
    generalize iDelay q a b = f0 at *
    repeat walk_at "s"
    refine ⟨szA, fun N3 hN3 => ?_⟩
    have S3 := S2.trans (same_new (o := .lst [V.int (-4)]) hN3)
    have gN3 : upd H2 N3 (.lst [V.int (-4)]) N3 = some (.lst ([(-4 : Int)].map V.int)) := upd_same
    generalize upd H2 N3 (.lst [V.int (-4)]) = H3 at *
    repeat walk_at "s"
    refine outE_must S3 gN3 (fun c3 => ?_) (fun c3 => by
      have := of_decide_eq_false c3
      rw [if_pos (by omega)] at k; exact k)
    have c3 := of_decide_eq_true c3
    rw [if_neg (by omega)] at k
    repeat walk_at "s"
    refine ⟨sz2, fun D hD => ?_⟩
    refine k _ D (S3.trans (same_new hD)) upd_same ?_
    cases z : H D with
    | none => rfl
    | some u => rw [S3 _ _ z] at hD; cases hD
end
end Rt
set_option Elab.async false
set_option linter.all false
set_option maxRecDepth 100000
set_option maxHeartbeats 4000000
namespace Rt
open PySem PySem.Spec PyProof.Rows L2
open C8 (Cal Met Mak pe_c pe_mk pe_mt pe_mt0 pe_gc)
local macro_rules | `(tactic| walk_at "bd") => `(tactic| first
  | assumption | exact Bd.lit (by decide) | exact Bd.sub (by walk_at "bd") (by walk_at "bd") | exact Bd.add (by walk_at "bd") (by walk_at "bd") | exact Bd.mul (by walk_at "bd") (by walk_at "bd") | exact Bd.neg (by walk_at "bd") | exact Bd.lit (by decide))
local macro_rules | `(tactic| walk_at "r") => `(tactic| with_reducible first
  | refine r_seq ?_ | refine r_ret ?_ | refine r_asg ?_ | refine r_drop ?_ | refine r_op ?_ | refine r_un ?_ | refine r_c ?_ | refine r_cons ?_ | refine r_nil ?_ | refine r_i0 ?_ | refine r_U ?_ | refine r_name ?_ | refine r_if ?_ | refine r_test ?_ | refine r_tB ?_ | refine r_bl ?_
  | refine r_call ?_ | refine r_meth ?_ | refine r_fld ?_ | refine r_tup ?_ | refine r_lst ?_ | refine r_cb ?_ | refine r_andV ?_ | refine r_orV ?_ | refine r_notV ?_ | refine r_and ?_ | refine r_or ?_ | refine r_not ?_ | refine r_eqI ?_ | refine r_neI ?_ | refine r_eqB ?_ | refine r_neB ?_
  | refine r_next ?_ | refine r_par ?_ | refine r_lc ?_ | refine r_yes ?_ | refine r_iList ?_ | refine r_iRng1 ?_ | refine r_lstRg ?_ | refine r_rg1 ?_ | refine r_gcons ?_ | refine r_gnil ?_ | refine r_var (by with_unfolding_all rfl) ?_)
local macro_rules | `(tactic| walk_at "s") => `(tactic| first
  | walk_at "r" | (with_reducible refine r_itT rfl ?_) | (with_reducible refine r_itF rfl ?_) | (with_reducible refine r_ixT (by assumption) (by with_unfolding_all rfl) ?_) | ((with_reducible refine r_iM ?_ ?_); exact bd_mul (by walk_at "bd") (by walk_at "bd") (by decide)) | (with_reducible refine r_gtup (by assumption) (by with_unfolding_all rfl) ?_) | refine RoomAt.meth (by assumption) ?_)
local macro_rules | `(tactic| walk_at "d") => `(tactic| try dsimp only [cxOf, Cx.nox, Cx.wish])

local macro_rules | `(tactic| walk_at "s") => `(tactic| with_reducible first
  | refine r_sl ?_ | refine r_po0 ?_ | refine r_po1 ?_ | refine r_for ?_ | refine r_bm ?_ | refine r_make ?_ | refine r_sfld ?_ | refine r_inl ?_)

local macro_rules | `(tactic| walk_at "s") => `(tactic| with_reducible first
  | refine r_callS ?_ | refine r_methE ?_ | refine r_iRng3 ?_ | refine r_mkO ?_)

theorem rgc2 {n : Nat} (h : n ≤ 100000) : RgC 0 ((2 * n : Nat) : Int) 2 n := by
  have e : Builtin.Range.rangeSize 0 ((2 * n : Nat) : Int) 2 = n := by
    unfold Builtin.Range.rangeSize
    rw [if_pos (by decide)]
    split <;> omega
  refine ⟨by decide, by decide, ?_, e⟩
  unfold Builtin.Range.small
  rw [e]
  have fit : ∀ z : Int, -(2 ^ 62) ≤ z → z < 2 ^ 62 → Builtin.Range.rangeFitsLong z = true := fun z h1 h2 => by
    unfold Builtin.Range.rangeFitsLong
    rw [Bool.and_eq_true]
    exact ⟨decide_eq_true (by omega), decide_eq_true (by omega)⟩
  rw [fit _ (by omega) (by omega), fit _ (by omega) (by omega), fit 2 (by omega) (by omega), fit _ (by omega) (by omega), if_pos (show (2 : Int) > 0 by decide), fit _ (by omega) (by omega), Bool.or_true]
  rfl
theorem cutAt2 {row : List Int} {a : Nat} {x y : Int} (h : a + 2 ≤ row.length) (ex : x = (a : Nat)) (ey : y = ((a + 2 : Nat) : Int)) : cutV (row.map V.int) (some x) (some y) = [.int (row.getD a 0), .int (row.getD (a + 1) 0)] := by
  subst ex ey
  unfold cutV
  rw [HT.sIx_nat, HT.sIx_nat, List.length_map, Nat.min_eq_left (by omega), Nat.min_eq_left (by omega), show a + 2 - a = 2 by omega]
  have g : ∀ j, j < row.length → (row.map V.int)[j]? = some (V.int (row.getD j 0)) := fun j hj => by
    rw [List.getElem?_map, List.getD_eq_getElem?_getD, List.getElem?_eq_getElem hj]
    rfl
  refine List.ext_getElem? fun j => ?_
  rw [List.getElem?_take, List.getElem?_drop]
  match j with
  | 0 => rw [if_pos (by decide), g _ (by omega)]; rfl
  | 1 => rw [if_pos (by decide), g _ (by omega)]; rfl
  | j + 2 => rw [if_neg (by omega)]; rfl
theorem evens_even {row : List Int} (h : row.length % 2 = 0) : evensOf row = (List.range (row.length / 2)).map fun k => row.getD (2 * k) 0 := by
  unfold evensOf
  rw [show (row.length + 1) / 2 = row.length / 2 by omega, List.filterMap_map]
  have key : ∀ l : List Nat, (∀ k ∈ l, 2 * k < row.length) → l.filterMap ((fun i => row[i]?) ∘ fun k => 2 * k) = l.map fun k => row.getD (2 * k) 0 := by
    intro l
    induction l with
    | nil => intro _; rfl
    | cons k l ih =>
      intro hk
      have h1 := hk k List.mem_cons_self
      rw [List.filterMap_cons, List.map_cons, ih fun j hj => hk j (List.mem_cons_of_mem _ hj)]
      have e1 : ((fun i => row[i]?) ∘ fun k => 2 * k) k = some (row.getD (2 * k) 0) := by
        show row[2 * k]? = _
        rw [List.getD_eq_getElem?_getD, List.getElem?_eq_getElem h1]
        rfl
      rw [e1]
  exact key _ fun k hk => by
    have := List.mem_range.mp hk
    omega
section
variable {P : Program} {w : World} {K : PySem.W.Frag} {mg : Str → Option Value} {base : Heap}
def spReadT (K : PySem.W.Frag) : Sp := fun vs H Q E => ∃ (l : Addr) (row : List Int), vs = [.ref l] ∧ SqL K H l (row.map V.int) ∧ row.length ≤ 100000 ∧
  (∀ taps, iRead row = .ok taps → ∀ H' D, Same H H' → TapsAt K H' D taps → H D = none → Q (.ref D) H') ∧ ∀ l', iRead row = .error l' → OutE K Q E H (.error l')
theorem ok_read_taps (T : Tx K mg base) : CalE (L2.CX P w) P w K mg base 4 "read_taps" (spReadT K) := by
  refine mkE T.f_read_taps T.g_read_taps sc_read_taps (fun _ _ _ _ _ _ us hl => match us, hl with | [_], _ => rfl) (fun vs H Q E h => ?_) (fun f cdv A outer s H vs Q E hr h => ⟨_, (pss_cons (ps_expr (pe_cE (ok_must_taps T) hr (by decide) rfl (fun σ => L2.passAt (L2.takes_of rfl rfl rfl rfl) σ) (pa_cons (pe_and (pe_cmpR op_eq (pe_op op_mod (pe_callB call_len_seq (by rfl) T.n_len PySem.boot_len (pa_cons (pv 0) pa_nil)) pe_int) pe_int (nomark _)) (pe_and (pe_cmpR op_le (pe_callB call_len_seq (by rfl) T.n_len PySem.boot_len (pa_cons (pv 0) pa_nil)) (pe_op op_mulW pe_int (pe_gc rfl T.c_MOST_TAPS)) (nomark _)) (pe_one (pe_callB (cr_all rfl) (by rfl) T.n_all (by decide +kernel) (pa_cons (pe_lc (own := [("far", 4)]) rfl sc_read_taps.nd (pi_list (pe_evens (pv 0))) (blkOk_by (own := [("far", 4)]) (N := ["row", "last", "found", "at", "far", "gain", "right"]) (sc := defScope s_read_taps) (by decide +kernel)) (fun _ _ _ _ _ => (pg_name (i := 4) sc_read_taps.nd rfl (Or.inl rfl))) (fun _ _ _ _ _ => pts_nil) (fun _ _ _ _ _ => (pe_cmpR op_ge (pv 4) pe_int (nomark _)))) pa_nil))))) (pa_cons (pe_lst (pa_cons (pe_un un_neg pe_int) pa_nil)) pa_nil))))
      (pss_cons (ps_set (i := 1) sc_read_taps.nd rfl (Or.inl rfl) (pe_un un_neg pe_int))
      (pss_cons (ps_set (i := 2) sc_read_taps.nd rfl (Or.inl rfl) (pe_lst pa_nil))
      (pss_cons (ps_for (L2.passes_of rfl) rfl (pi_range3 (by rfl) T.n_range (pa_cons pe_int (pa_cons (pe_callB call_len_seq (by rfl) T.n_len PySem.boot_len (pa_cons (pv 0) pa_nil)) (pa_cons pe_int pa_nil)))) (pg_name (i := 3) sc_read_taps.nd rfl (Or.inl rfl)) (pss_cons (ps_asg (pe_slice (r := rSlL K) sl_list (pv 0) (po_some (pv 3)) (po_some (pe_op op_add (pv 3) pe_int))) (pg_lst rfl (pgs_cons (pg_name (i := 4) sc_read_taps.nd rfl (Or.inl rfl)) (pgs_cons (pg_name (i := 5) sc_read_taps.nd rfl (Or.inl rfl)) pgs_nil))))
      (pss_cons (ps_set (i := 6) sc_read_taps.nd rfl (Or.inl rfl) (pe_and (pe_cmpR op_le (pv 4) (pe_gc rfl T.c_MOST_DELAY) (nomark _)) (pe_and (pe_cmpR op_ne (pv 5) pe_int (nomark _)) (pe_and (pe_cmpR op_le (pe_callB call_abs (by rfl) T.n_abs (by decide +kernel) (pa_cons (pv 5) pa_nil)) (pe_gc rfl T.c_MOST_GAIN) (nomark _)) (pe_one (pe_cmpR op_gt (pv 4) (pv 1) (nomark _)))))))
      (pss_cons (ps_expr (pe_cE (ok_must_taps T) hr (by decide) rfl (fun σ => L2.passAt (L2.takes_of rfl rfl rfl rfl) σ) (pa_cons (pv 6) (pa_cons (pe_lst (pa_cons (pe_un un_neg pe_int) (pa_cons (pe_op op_fdiv (pv 3) pe_int) pa_nil))) pa_nil))))
      (pss_cons (ps_expr (pe_bm PySem.F.plainAttrs_list PySem.F.slot_list_append PySem.F.type_list_append mt_append (pv 2) (pa_cons (pe_tup (pa_cons (pv 4) (pa_cons (pv 5) pa_nil))) pa_nil)))
      (pss_one (ps_set (i := 1) sc_read_taps.nd rfl (Or.inl rfl) (pv 4))))))))
      (pss_one (ps_ret (pv 2))))))), ?_⟩)
  · obtain ⟨l, row, rfl, _⟩ := h
    rfl
  · obtain ⟨l, row, rfl, hl, big, k0, ke⟩ := h
    walk_at "d"
    repeat walk_at "s"
    refine ⟨l, _, rfl, .inl hl, ?_⟩
    rw [List.length_map]
    repeat walk_at "s"
    refine r_iC (show (0 : Int) < 2 by decide) ?_
    repeat walk_at "s"
    have fin1 : evShape row = false → ∀ H' Q', Same H H' → ∀ N, H' N = none → spMustT (He.ga K "Refused") [.bl false, .ref N] (upd H' N (.lst [.int (-1)])) Q' (fun cls d H => E cls d H) := fun h H' Q' S N hN =>
      outE_must (l := [-1]) (S.trans (same_new hN)) upd_same (fun z => nomatch z) (fun _ => ke _ (by unfold iRead; rw [if_pos h]))
    refine r_iteB (fun c1 => ?_) fun c1 => ?_
    rotate_left
    · have c1 := of_decide_eq_false c1
      repeat walk_at "s"
      refine ⟨szA, fun N hN => ?_⟩
      repeat walk_at "s"
      refine fin1 ?_ _ _ (Same.refl H) N hN
      unfold evShape
      rw [decide_eq_false (by omega)]
      rfl
    have c1 := of_decide_eq_true c1
    have even : row.length % 2 = 0 := by omega
    repeat walk_at "s"
    refine ⟨l, _, rfl, .inl hl, ?_⟩
    rw [List.length_map]
    repeat walk_at "s"
    refine r_iteB (fun c2 => ?_) fun c2 => ?_
    rotate_left
    · have c2 := of_decide_eq_false c2
      repeat walk_at "s"
      refine ⟨szA, fun N hN => ?_⟩
      repeat walk_at "s"
      refine fin1 ?_ _ _ (Same.refl H) N hN
      unfold evShape
      rw [decide_eq_true even, Bool.true_and, decide_eq_false (by omega)]
      rfl
    have c2 := of_decide_eq_true c2
    repeat walk_at "s"
    refine r_evens ?_
    repeat walk_at "s"
    refine ⟨l, _, rfl, hl, fun p hp => ?_⟩
    rw [evens_map, evens_even even]
    have S1 := same_new (o := .lst (((List.range (row.length / 2)).map fun k => row.getD (2 * k) 0).map V.int)) hp
    have gp : SqL K (upd H p (.lst (((List.range (row.length / 2)).map fun k => row.getD (2 * k) 0).map V.int))) p (((List.range (row.length / 2)).map fun k => row.getD (2 * k) 0).map V.int) := SqL.of upd_same
    generalize upd H p (.lst (((List.range (row.length / 2)).map fun k => row.getD (2 * k) 0).map V.int)) = H1 at *
    have pl : (((List.range (row.length / 2)).map fun k => row.getD (2 * k) 0).map V.int).length = row.length / 2 := by rw [List.length_map, List.length_map, List.length_range]
    refine ⟨p, rfl, ⟨_, gp⟩, fun D hD => ?_⟩
    refine lcIdx (f := fun k => .bl (decide (0 ≤ row.getD (2 * k) 0))) hD gp (by omega) (fun i x H2 G F hx S2 h => ?_) (fun H2 S2 e => ?_)
    · refine ⟨rfl, ?_⟩
      refine r_yes ?_
      refine r_itT rfl ?_
      have hi : i < row.length / 2 := by rw [← pl]; exact (List.getElem?_eq_some_iff.mp hx).1
      rw [List.getElem?_map, List.getElem?_map, List.getElem?_range hi] at hx
      cases hx
      repeat walk_at "s"
      exact h _ (Same.refl _)
    rw [pl] at e
    have S02 := S1.trans S2
    have e2 : H2 D = some (.lst (((List.range (row.length / 2)).map fun k => decide (0 ≤ row.getD (2 * k) 0)).map V.bl)) := by
      rw [e, List.map_map]
      rfl
    repeat walk_at "s"
    refine ⟨D, _, rfl, SqL.of e2, ?_⟩
    have ea : ((List.range (row.length / 2)).map fun k => decide (0 ≤ row.getD (2 * k) 0)).all _root_.id = (List.range (row.length / 2)).all fun k => decide (0 ≤ row.getD (2 * k) 0) := by
      rw [List.all_map]
      rfl
    rw [ea]
    repeat walk_at "s"
    refine ⟨szA, fun N hN => ?_⟩
    have S3 := S02.trans (same_new (o := .lst [V.int (-1)]) hN)
    have gN : upd H2 N (.lst [V.int (-1)]) N = some (.lst ([(-1 : Int)].map V.int)) := upd_same
    generalize upd H2 N (.lst [V.int (-1)]) = H3 at *
    have es : evShape row = (List.range (row.length / 2)).all fun k => decide (0 ≤ row.getD (2 * k) 0) := by
      unfold evShape
      rw [decide_eq_true even, Bool.true_and, decide_eq_true (by omega), Bool.true_and]
    repeat walk_at "s"
    refine outE_must S3 gN (fun c3 => ?_) (fun c3 => ke _ (by unfold iRead; rw [if_pos (es.trans c3)]))
    rw [c3] at es
    have ok0 : ∀ k, k < row.length / 2 → 0 ≤ row.getD (2 * k) 0 := fun k hk => of_decide_eq_true (List.all_eq_true.mp c3 k (List.mem_range.mpr hk))
    have er : ∀ {x}, firstBad (okTap row) (row.length / 2) = x → iRead row = match x with | some k => .error [-7, (k : Int)] | none => .ok (tapsT row) := fun {x} h => by
      unfold iRead
      rw [if_neg (by rw [es]; decide), h]
      all_goals (cases x <;> rfl)
    clear c3 ea e2 e gp pl fin1
    have elen : row.length = 2 * (row.length / 2) := by omega
    obtain ⟨n, hn⟩ : ∃ n, row.length / 2 = n := ⟨_, rfl⟩
    rw [hn] at elen ok0 er
    repeat walk_at "s"
    refine ⟨sz0, fun F hF => ?_⟩
    have S4 := S3.trans (same_new (o := .lst []) hF)
    have gF : upd H3 F (.lst []) F = some (.lst (([] : List Addr).map V.ref)) := upd_same
    have hFH : H F = none := by
      cases z : H F with
      | none => rfl
      | some u => rw [S3 _ _ z] at hF; cases hF
    generalize upd H3 F (.lst []) = H4 at *
    repeat walk_at "s"
    refine ⟨l, _, rfl, .inl (S4.lst hl), ?_⟩
    rw [List.length_map, elen]
    repeat walk_at "s"
    refine ⟨_, _, _, n, rfl, rgc2 (by omega), ?_⟩
    refine for_rangeC (lo := 0) (c := 2) (n := n) (fun i σ H' => ∃ (x3 x4 x5 x6 : Option V) (ts : List Addr), σ = [some (.ref l), some (.int (lastFar row i)), some (.ref F), x3, x4, x5, x6] ∧ Same H H' ∧ H' F = some (.lst (ts.map V.ref)) ∧ ts.length = i ∧
      (∀ (j : Nat) (t : Addr), ts[j]? = some t → SqT K H' t [.int ((tapAt row j).1 : Int), .int (tapAt row j).2]) ∧ ∀ j, j < i → okTap row j = true) ⟨_, _, _, _, [], rfl, S4, gF, rfl, fun j t e => by simp at e, fun j hj => absurd hj (Nat.not_lt_zero _)⟩ (fun i σ H5 hi z => ?_) (fun σ H5 z => ?_)
    · obtain ⟨x3, x4, x5, x6, ts, rfl, S5, gF, tl, tt, ok⟩ := z
      have bad : okTap row i = false → ∀ H' Q', Same H H' → ∀ N, H' N = none → spMustT (He.ga K "Refused") [.bl false, .ref N] (upd H' N (.lst [.int (-7), .int (i : Int)])) Q' (fun cls d H => E cls d H) := fun h H' Q' S N hN =>
        outE_must (l := [-7, (i : Int)]) (S.trans (same_new hN)) upd_same (fun z => nomatch z) (fun _ => ke _ (er (firstBad_some hi ok h)))
      have e0 : (0 : Int) + (i : Int) * 2 = ((2 * i : Nat) : Int) := by omega
      have e7 : ((2 * i : Nat) : Int) / 2 = (i : Int) := by omega
      rw [e0]
      repeat walk_at "s"
      refine ⟨l, _, rfl, S5.lst hl, fun M hM => ?_⟩
      rw [cutAt2 (a := 2 * i) (by omega) rfl (by omega)]
      have S6 := S5.trans (same_new (o := .lst [V.int (row.getD (2 * i) 0), V.int (row.getD (2 * i + 1) 0)]) hM)
      have S56 := same_new (o := .lst [V.int (row.getD (2 * i) 0), V.int (row.getD (2 * i + 1) 0)]) hM
      have gM : SqL K (upd H5 M (.lst [V.int (row.getD (2 * i) 0), V.int (row.getD (2 * i + 1) 0)])) M [V.int (row.getD (2 * i) 0), V.int (row.getD (2 * i + 1) 0)] := SqL.of upd_same
      generalize upd H5 M (.lst [V.int (row.getD (2 * i) 0), V.int (row.getD (2 * i + 1) 0)]) = H6 at *
      have f0 := ok0 i hi
      have el : lastFar row (i + 1) = row.getD (2 * i) 0 := by unfold lastFar; rw [if_neg (by omega)]; rfl
      have eo : okTap row i = (decide (row.getD (2 * i) 0 ≤ 262143) && ((!decide (row.getD (2 * i + 1) 0 = 0)) && (decide ((if row.getD (2 * i + 1) 0 < 0 then -row.getD (2 * i + 1) 0 else row.getD (2 * i + 1) 0) ≤ 1099511627776) && decide (lastFar row i < row.getD (2 * i) 0)))) := by
        unfold okTap
        congr 3
        rw [Bool.eq_iff_iff, decide_eq_true_iff, decide_eq_true_iff]
        split <;> omega
      have et : tapAt row i = ((row.getD (2 * i) 0).toNat, row.getD (2 * i + 1) 0) := rfl
      refine r_glst gM rfl ?_
      generalize row.getD (2 * i) 0 = u at *
      generalize row.getD (2 * i + 1) 0 = v at *
      generalize lastFar row i = la at *
      repeat walk_at "s"
      refine r_iteB (fun d1 => ?_) fun d1 => ?_
      rotate_left
      · repeat walk_at "s"
        refine r_iC (C := CDiv) ⟨by decide, by decide⟩ ?_
        rw [e7]
        repeat walk_at "s"
        refine ⟨sz2, fun N hN => ?_⟩
        repeat walk_at "s"
        exact bad (by rw [eo, d1]; rfl) _ _ S6 N hN
      repeat walk_at "s"
      refine r_iteB (fun d2 => ?_) fun d2 => ?_
      rotate_left
      · repeat walk_at "s"
        refine r_iC (C := CDiv) ⟨by decide, by decide⟩ ?_
        rw [e7]
        repeat walk_at "s"
        refine ⟨sz2, fun N hN => ?_⟩
        repeat walk_at "s"
        exact bad (by rw [eo, d1, d2]; rfl) _ _ S6 N hN
      repeat walk_at "s"
      refine ⟨_, rfl, ?_⟩
      repeat walk_at "s"
      refine r_iteB (fun d3 => ?_) fun d3 => ?_
      rotate_left
      · repeat walk_at "s"
        refine r_iC (C := CDiv) ⟨by decide, by decide⟩ ?_
        rw [e7]
        repeat walk_at "s"
        refine ⟨sz2, fun N hN => ?_⟩
        repeat walk_at "s"
        exact bad (by rw [eo, d1, d2, d3]; rfl) _ _ S6 N hN
      repeat walk_at "s"
      refine r_iC (C := CDiv) ⟨by decide, by decide⟩ ?_
      rw [e7]
      repeat walk_at "s"
      refine ⟨sz2, fun N hN => ?_⟩
      have S7 := same_new (o := .lst [V.int (-7), V.int (i : Int)]) hN
      have gN7 : upd H6 N (.lst [V.int (-7), V.int (i : Int)]) N = some (.lst ([-7, (i : Int)].map V.int)) := upd_same
      generalize upd H6 N (.lst [V.int (-7), V.int (i : Int)]) = H7 at *
      repeat walk_at "s"
      refine outE_must (S6.trans S7) gN7 (fun d4 => ?_) (fun d4 => ke _ (er (firstBad_some hi ok (by rw [eo, d1, d2, d3, d4]; rfl))))
      have gF7 := S7 _ _ (S56 _ _ gF)
      repeat walk_at "s"
      refine ⟨tyl gF7, ?_⟩
      repeat walk_at "s"
      refine ⟨sz2, fun tp htp => ?_⟩
      have S8 := same_new (o := .tup [V.int u, V.int v]) htp
      repeat walk_at "s"
      refine ⟨F, _, _, rfl, rfl, S8 _ _ gF7, by rw [List.length_map]; exact sz1' (by omega), ?_⟩
      have S58 := S56.trans (S7.trans S8)
      have gF8 := S8 _ _ gF7
      have gt : SqT K (upd H7 tp (.tup [V.int u, V.int v])) tp [V.int u, V.int v] := SqT.of upd_same
      generalize upd H7 tp (.tup [V.int u, V.int v]) = H8 at *
      repeat walk_at "s"
      refine ⟨some (.int ((2 * i : Nat) : Int)), some (.int u), some (.int v), some (.bl (decide (la < u))), ts ++ [tp], ?_, same_put (S5.trans S58) hFH, ?_, by rw [List.length_append, tl]; rfl, fun j t e => ?_, fun j hj => ?_⟩
      · rw [el]
        rfl
      · rw [upd_same, List.map_append]
        rfl
      · refine tup_put gF8 ?_
        by_cases q : j < ts.length
        · rw [List.getElem?_append_left q] at e
          exact S58.tup (tt j t e)
        · rw [List.getElem?_append_right (by omega)] at e
          have z0 : j - ts.length = 0 := by
            have := (List.getElem?_eq_some_iff.mp e).1
            simp at this
            omega
          rw [z0] at e
          cases e
          have : j = i := by omega
          rw [this, et, show ((u.toNat : Nat) : Int) = u by omega]
          exact gt
      · by_cases q : j < i
        · exact ok j q
        · have : j = i := by omega
          rw [this, eo, d1, d2, d3, d4]
          rfl
    · obtain ⟨x3, x4, x5, x6, ts, rfl, S5, gF, tl, tt, ok⟩ := z
      repeat walk_at "s"
      refine k0 _ (er (firstBad_none ok)) H5 F S5 ⟨ts, gF, ?_, fun j t q e1 e2 => ?_⟩ hFH
      · unfold tapsT
        rw [List.length_map, List.length_range, hn]
        exact tl
      · unfold tapsT at e2
        have hj : j < n := by rw [← tl]; exact (List.getElem?_eq_some_iff.mp e1).1
        rw [List.getElem?_map, hn, List.getElem?_range hj] at e2
        cases e2
        exact tt j t e1
end
end Rt
set_option Elab.async false
set_option linter.all false
set_option maxRecDepth 100000
set_option maxHeartbeats 4000000
namespace Rt
open PySem PySem.Spec PyProof.Rows L2 L2H
/-! ### try: .. except X as n: a suite that raises -/
theorem traced_but {h h' B : Heap} {e L : Addr} {Z : Obj → Prop} {fl : Value} {m : Str → Option Value} (t : HandSPX.TracedZ h B e Z fl) (hn : h.Ns L m) (sb : Heap.SameBut L h h') : HandSPX.TracedZ h' B e Z fl := by
  obtain ⟨oe, vs, T, oT, ts, g1, g2, g3, g4, g5, g6, g7, g8, g9⟩ := t
  obtain ⟨oL, _, _, gL, dL, _⟩ := hn
  have apart : ∀ (b : Addr) (o : Obj) (us : Array Value), h.get? b = some o → o.data = .fields us → b ≠ L := fun b o us z1 z2 q => by
    subst q
    rw [gL] at z1
    cases z1
    rw [dL] at z2
    cases z2
  exact ⟨oe, vs, T, oT, ts, (sb.2 e (apart _ _ _ g1 g3)).trans g1, g2, g3, g4, g5, g6, (sb.2 T (apart _ _ _ g7 g8)).trans g7, g8, g9⟩
section
variable {M : Model} {A A' : Around} {E E₂ : Value → Shared → Prop} {s : Shared} {B : Heap} {env : Env} {outer : List Env} {L e : Addr} {Z : Obj → Prop} {n : Str} {pos : Pos} {m : Str → Option Value}
/-- behind the first look: the name goes, the exception goes on -/
theorem as_tail (hf : env.frame = some L) (hL : env.locals = L) (hh : HandSPX.HeldZ B (env :: outer) e Z L s.heap) (hn : s.heap.Ns L m) (hlo : env.kindOf n = some .local)
    (hp : (env.scope.kind == .class || (env.scope.kind == .module && env.locals != env.globals)) = false)
    (k : ∀ (h2 : Heap) (v : Option Value) (h3 : Heap), h2.Ns L (fun x => if x = n then v else m x) → Heap.SameBut L s.heap h2 → h2.UpToSlots h3 → HandSPX.HeldZ B (env :: outer) e Z L h3 → E (.ref e) { s with heap := h3, toks := s.toks + 1 }) :
    wpAny M A' (do bindName env n .none; unbindBehindTheSuite env n pos)
      (fun _ s₂ => wpAny M A' (PySem.passOn "try.except-as" (.ref e) env : Sem Flow) (fun _ _ => False) (notedBy M A' env (cameBackBy M A env E)) s₂) E₂ s := by
  subst hL
  obtain ⟨st, ne, ff, tr⟩ := hh
  have gone : B.get? env.locals = none := by
    obtain ⟨_, ⟨L', _, q1, q2, _⟩, _⟩ := ff
    rw [hf] at q1
    cases q1
    exact q2
  refine wpAny_nameGoes_keeps hlo hn hp fun h2 v hn2 sb => ?_
  have st2 : B.StaysIn h2 := fun b o z => (sb.2 b fun q => by rw [q, gone] at z; cases z).trans (st b o z)
  have ff2 := Heap.FunFrames.sameBut sb hn2 ff
  have tr2 := traced_but tr hn sb
  obtain ⟨oe, vs, T, oT, ts, y1, y2, y3, y4, yr⟩ := id tr2
  unfold PySem.passOn
  refine wpAny_bind (wpAny_field y1 y3 y4 ?_)
  rw [if_neg (show ¬ ((Value.ref T == Value.none) = true) from by simp), hf]
  refine wpAny_bind (HandSPX.setFlight_anyZ (l := env :: outer) st2 ff2 tr2 fun h3 st3 ff3 tr3 u3 => wpAny_throw ?_)
  show wpAny M A' (noteFrame (.ref e) env) _ _ _
  refine HandSPX.againZ hf tr3 ?_
  obtain ⟨oe', vs', T', oT', ts', z1, z2, z3, z4, zr⟩ := id tr3
  show wpAny M A (do
    if (← field (.ref e) 1) == .none then unsupported "frame.own-activation:exception-without-traceback"
    setFlight (.ref e) env.frame) _ _ _
  refine wpAny_bind (wpAny_field z1 z3 z4 ?_)
  rw [if_neg (show ¬ ((Value.ref T' == Value.none) = true) from by simp), hf]
  exact HandSPX.setFlight_anyZ (l := env :: outer) st3 ff3 tr3 fun h4 st4 ff4 tr4 u4 => k h2 v h4 hn2 sb (u3.trans u4) ⟨st4, ne, ff4, tr4⟩
/-- noted by the frame -/
theorem sky_note {a : Addr} {Q : Unit → Shared → Prop} (hZ : HandSPX.Steady Z) (hfr : A.frames = some (env :: outer)) (hf : env.frame = some L) (x : Sky B (env :: outer) a Z L s.heap)
    (k : ∀ h1, HandSPX.HeldZ B (env :: outer) a Z L h1 → s.heap.UpToSlots h1 → Q () { s with heap := h1 }) : wpAny M A (noteFrame (.ref a) env) Q E s := by
  rcases x with ⟨y1, y2, y3, oe, vs, y4, y5, y6, y7⟩ | y | y
  · exact HandSPX.look_newZ hZ hfr y3 hf y4 y1 y2 y6 y7 y5 k
  · exact HandSPX.looks_onZ hZ hfr hf y k
  · exact HandSPX.againZ hf y.2.2.2 (k s.heap y (Heap.UpToSlots.refl _))
end
section
variable {X : Cx} {pins : List (Addr × Obj)} {σ : L2.St} {H : Hp} {s : Shared}
/-- a name of the frame let go -/
theorem inv_gone {G : Heap} {t' : Nat} {i : Nat} {n : Str} {v : Option Value} {m : Str → Option Value} (I : Inv X pins σ H s) (nd : X.N.Nodup) (hi : X.N[i]? = some n) (hl : X.env.kindOf n = some .local)
    (lk : ∀ (j : Nat) (x : Str) (u : V), X.N[j]? = some x → σ[j]? = some (some u) → Vis X.env.scope x → ∃ y, RelV u y ∧ Look X.env s.heap m x y)
    (hn : G.Ns X.env.locals (fun x => if x = n then v else m x)) (sb : Heap.SameBut X.env.locals s.heap G) : Inv X pins (σ.set i none) H { s with heap := G, toks := t' } := by
  have old : ∀ (b : Addr) (o : Obj), X.s_0.heap.get? b = some o → b ≠ X.env.locals := fun b o z => Nat.ne_of_lt (Nat.lt_of_lt_of_le (Heap.lt_size z) I.ok.above)
  have kp : ∀ (b : Addr) (o o' : Obj), X.s_0.heap.get? b = some o → s.heap.get? b = some o' → G.get? b = some o' := fun b o o' z y => (sb.2 b (old b o z)).trans y
  have U := I.base
  refine ⟨I.ok, I.os, I.bare, ?_, ?_, ?_, I.free, I.freeC, ?_, ?_, ?_⟩
  · exact ⟨fun b o z1 z2 z3 z4 => kp b o _ z1 (U.keep b o z1 z2 z3 z4), fun b o z1 z2 z3 z4 => (U.slot b o z1 z2 z3 z4).imp fun sl y => kp b o _ z1 y, U.free, fun b o z1 z2 => (U.there b o z1 z2).imp fun o' y => kp b o _ z1 y, U.tups, U.frzs, U.tbls⟩
  · refine ⟨_, hn, fun j x u e1 e2 e3 => ?_⟩
    have ji : j ≠ i := fun q => by
      subst q
      rw [List.getElem?_set] at e2
      split at e2
      · split at e2 <;> cases e2
      · rename_i z; exact z rfl
    rw [List.getElem?_set_ne (Ne.symm ji)] at e2
    obtain ⟨y, r1, r2⟩ := lk j x u e1 e2 e3
    refine ⟨y, r1, ?_⟩
    rcases r2 with ⟨w1, w2⟩ | ⟨w1, c, w2, w3⟩
    · refine .inl ⟨w1, ?_⟩
      show (if x = n then v else m x) = some y
      rw [if_neg (fun q : x = n => ji (nodup_ix nd e1 (q ▸ hi)))]
      exact w2
    · exact .inr ⟨w1, c, w2, w3.sameBut sb (I.cne x c w2)⟩
  · intro x c z
    exact (I.cell x c z).imp fun _ y => y.sameBut sb (I.cne x c z)
  · intro p hp
    obtain ⟨y1, y2, y3, y4⟩ := I.pin p hp
    exact ⟨(sb.2 p.1 y3).trans y1, y2, y3, y4⟩
  · intro b ob z
    refine (I.hok b ob z).stay (fun c w' hc q => (sb.2 c fun e => ?_).trans q) (fun _ q => q) fun _ _ q => q
    have fr := I.free
    rw [← e] at fr
    rcases hc with hc | hc
    · rw [hc, z] at fr; cases fr
    · rw [hc] at fr; cases fr
  · show (σ.set i none).length = X.N.length
    rw [List.length_set]
    exact I.len
end
/-- the context of an except suite with a name, which may raise -/
abbrev suiteA (X : Cx) (a : Addr) (pn : List (Addr × Obj)) (xe : Value → Shared → Prop) : Cx := { X with A := X.A.mark (some (.ref a)), calm := false, pn := pn, xe := xe }
section
variable {X : Cx} {pins : List (Addr × Obj)} {σ : L2.St} {H : Hp} {s : Shared}
theorem suiteA_of {a : Addr} {pn pn' : List (Addr × Obj)} {xe : Value → Shared → Prop} (I : Inv (X.suite a pn) pn' σ H s) : Inv (suiteA X a pn xe) pn' σ H s :=
  ⟨⟨I.ok.mod, I.ok.kind, I.ok.glob, I.ok.blt, I.ok.above, I.ok.inj, I.ok.has, I.ok.cab, I.ok.hd, I.ok.frames, I.ok.stk, I.ok.exf, I.ok.bs, I.ok.bsz, I.ok.noex, I.ok.exfs, I.ok.funs, I.ok.frf⟩, I.os, I.bare, I.base, I.loc, I.cell, I.free, I.freeC, I.pin, I.hok, I.len⟩
theorem of_suiteA {a : Addr} {q : Addr × Obj} {pn' : List (Addr × Obj)} {xe : Value → Shared → Prop} (I : Inv (suiteA X a (q :: (X.pn ++ pins)) xe) pn' σ H s) (ok : X.Ok) : Inv X pins σ H s :=
  ⟨ok, I.os, I.bare, I.base, I.loc, I.cell, I.free, I.freeC, fun p hp => I.pin p (List.mem_append_left _ (List.mem_cons_of_mem _ hp)), I.hok, I.len⟩
end
section
variable {X : Cx} {x n : Str} {c : Value} {i : Nat} {body suite : List Stmt} {b₀ : Stmt} {np pos pos' : Pos} {tb : WX → TS} {ts : Addr → Value → Option Addr → TS} {Wout : WX}
theorem ps_try_asX (hs : X.stack = X.env :: X.outer) (hf : X.env.frame = some X.env.locals) (hN : X.N.Nodup) (hi : X.N[i]? = some n) (hln : X.env.kindOf n = some .local) (hc : Names X x c) (tk : L2N.Takes X (fun cls d σ H => Wout cls d σ H)) (tk1 : L2.Takes X Wout)
    (hb : ∀ (W : WX) (pn : List (Addr × Obj)) (xe : Value → Shared → Prop), L2N.Takes (X.tr pn xe) W → PassesOwn (model X.prog X.w) X.A X.env xe → PSs (X.tr pn xe) body (tb W))
    (hsu : ∀ (a : Addr) (oe : Obj) (cls : Value) (d : Option Addr) (pn : List (Addr × Obj)) (xe : Value → Shared → Prop), L2N.Zn cls d oe → (∃ vs, oe.data = .fields vs) → L2.Takes (suiteA X a ((a, oe) :: pn) xe) (fun cls d σ H => Wout cls d (σ.set i none) H) → HotC (suiteA X a ((a, oe) :: pn) xe) →
      PSs (suiteA X a ((a, oe) :: pn) xe) (b₀ :: suite) (ts a cls d)) :
    PS X (.Try body [.ExceptHandler (some (.Name x np)) (some n) (b₀ :: suite) pos'] [] [] pos) (fun D σ H => tb (wAs X.K c i ts Wout D) D σ H) := by
  refine ⟨fun pins s σ H D I h => ?_⟩
  have ok := I.ok
  have hfr : X.A.frames = some (X.env :: X.outer) := by rw [ok.frames, hs]
  have hloc : Loc X.env.scope n := .inl hln
  refine wpAny_Try_except ?_
  refine wpAny_mono ((hb (wAs X.K c i ts Wout D) (X.pn ++ pins) (fun e s₁ => wpAny (model X.prog X.w) X.A (noteFrame e X.env) (fun _ s₂ => wpAny (model X.prog X.w) X.A (setFlight e none) (fun _ s₃ =>
    wpAny (model X.prog X.w) X.A (handleBy e X.env [.ExceptHandler (some (.Name x np)) (some n) (b₀ :: suite) pos']) (SP X pins D) X.xe s₃) X.xe s₂) X.xe s₁) (fun u s' xx => ?_) PassesOwn.looking).run [] s σ H D (I.toTry _) h) (fun f s1 hsp => ?_) (fun e s1 he => he)
  · obtain ⟨a, B, sI, pins', σ', H', cls, d, rfl, J', nb, up, sky, na, os, ag, b, hb1, hyes, hno⟩ := xx
    have J : Inv X pins σ' H' sI := J'.ofTry ok
    have sky' : Sky B (X.env :: X.outer) a (L2N.Zn cls d) X.env.locals s'.heap := by rw [← hs]; exact sky
    show wpAny (model X.prog X.w) X.A (noteFrame (.ref a) X.env) _ _ _
    refine L2N.Sky.land L2N.Zn.steady hfr hf sky' fun h3 fl3 up3 => ?_
    have J3 : Inv X pins σ' H' { s' with heap := h3 } := J.landed nb fl3.1 (up.trans up3) os ag
    obtain ⟨oe3, vs3, he3, hz3, hd3⟩ := fl3.there
    have notFr : ∀ {B h : Heap} {a : Addr} {o : Obj} {vs : Array Value}, h.FunFrames B (X.env :: X.outer) → h.get? a = some o → o.data = .fields vs → a ∉ frs (X.env :: X.outer) := fun {B h a o vs} ff e dd hm => by
      obtain ⟨_, o', e', hnf⟩ := ff.mem hm
      rw [e] at e'; cases e'
      exact hnf _ dd
    have nfr := notFr fl3.2.2.1 he3 hd3
    have nL : a ≠ X.env.locals := fun z => nfr (List.mem_filterMap.mpr ⟨X.env, List.mem_cons_self, by rw [hf, z]⟩)
    have nF : a ∉ X.fs := fun hm => by
      obtain ⟨e, he, q⟩ := List.mem_filterMap.mp hm
      exact nfr (List.mem_filterMap.mpr ⟨e, List.mem_cons_of_mem _ he, q⟩)
    have S3 := J3.suite he3 hd3 na nL nF
    refine wpAny_handleBy_cons (codeAny_handlers_test ?_) (by intro q; cases q)
    have LT : PySem.W.Looks (model X.prog X.w) h3 (typeOf (.ref a)) cls := fun A Q E s k q => wpAny_typeOf_ref (k _ _ he3) (by rw [hz3.1]; exact q)
    have LM := PySem.W.exm_one (M := model X.prog X.w) (J3.kIn) LT hb1
    have test : ∀ {Q : Value → Shared → Prop} {E : Value → Shared → Prop}, Q c { s' with heap := h3 } → wpAny (model X.prog X.w) (X.A.mark (some (.ref a))) (eval (.Name x np) X.env) Q E { s' with heap := h3 } := fun {Q E} q => by
      obtain ⟨hg, hdbg, hm | ⟨hm, hv, hnn⟩⟩ := hc
      · exact ld_glob (X := X.suite a ((a, oe3) :: (X.pn ++ pins))) S3 hg hm q hdbg
      · exact ld_blt (X := X.suite a ((a, oe3) :: (X.pn ++ pins))) S3 hg hm hv q hnn hdbg
    refine test (LM.here ?_)
    cases b with
    | true =>
      refine codeAny_handlers_suite_as ?_
      refine HandSPX.lands_againZ fl3 fun h4 fl4 up4 => ?_
      have J4 : Inv X pins σ' H' { s' with heap := h4 } := J.landed nb fl4.1 ((up.trans up3).trans up4) os ag
      obtain ⟨oe4, vs4, he4, hz4, hd4⟩ := fl4.there
      have S4 := J4.suite he4 hd4 na nL nF
      refine store_ok (X := X.suite a ((a, oe4) :: (X.pn ++ pins))) (v := .ref a) S4 hN hi hloc rfl (fun s5 S5 => ?_) (.inr hln)
      have hot : ∀ xe, HotC (suiteA X a ((a, oe4) :: (X.pn ++ pins)) xe) := fun xe => ⟨(a, oe4), ⟨rfl, vs4, hd4, hz4.2.2 vs4 hd4⟩, List.mem_cons_self⟩
      refine wpAny_mono ((hsu a oe4 cls d (X.pn ++ pins) _ hz4 ⟨_, hd4⟩ (fun u2 s2 x2 => ?tks) (hot _)).run [] s5 _ H' _ (suiteA_of S5) (hyes rfl a na)) (fun f s6 hsp => ?_) (fun e6 s6 z => z)
      case tks =>
        obtain ⟨a2, B2, sI2, pn2, σ2, H2, cls2, d2, rfl, I2, nb2, up2, sky2, na2, os2, ag2, w2⟩ := x2
        have sky3 : Sky B2 (X.env :: X.outer) a2 (Zc cls2 d2) X.env.locals s2.heap := by rw [← hs]; exact sky2
        show wpAny (model X.prog X.w) (X.A.mark (some (.ref a))) (noteFrame (.ref a2) X.env) _ _ _
        refine sky_note (A := X.A.mark (some (.ref a))) Zc.steady hfr hf sky3 fun h5 hh5 up5 => ?_
        obtain ⟨m, hm, lk⟩ := I2.loc
        have J2 : Inv X pins σ2 H2 sI2 := of_suiteA I2 ok
        have m5 : h5.Ns X.env.locals m := (up2.trans up5).ns hm
        refine as_tail (s := { s2 with heap := h5 }) hf rfl hh5 m5 hln (by rw [ok.kind]; rfl) fun h6 v h7 n6 sb u67 hh7 => ?_
        refine tk1 _ _ ?_
        obtain ⟨o6, es, ep, g6, d6, k6, m6⟩ := n6
        obtain ⟨o0, _, _, g0, _⟩ := id hm
        have inL : X.env.locals ∈ frs X.stack := by rw [hs]; exact List.mem_filterMap.mpr ⟨X.env, List.mem_cons_self, hf⟩
        have gL : (sI2.heap.update X.env.locals fun _ => o6).get? X.env.locals = some o6 := Heap.get?_update_self _ g0 (Heap.get?_some_iff.mp g6).2
        have sbG : Heap.SameBut X.env.locals sI2.heap (sI2.heap.update X.env.locals fun _ => o6) := Heap.SameBut.update _ _ _
        generalize (sI2.heap.update X.env.locals fun _ => o6) = G at *
        refine ⟨a2, B2, { sI2 with heap := G, toks := sI2.toks }, pins, σ2.set i none, H2, cls2, d2, rfl, inv_gone J2 hN hi hln lk ⟨o6, es, ep, gL, d6, k6, m6⟩ sbG, fun b o z1 z2 => ?_, fun b o z1 z2 => ?_, .inr (.inr (by rw [hs]; exact hh7)), na2, os2, ag2, w2⟩
        · have bL : b ≠ X.env.locals := fun q => z2 (q ▸ inL)
          exact nb2 b o ((sbG.2 b bL).symm.trans z1) z2
        · by_cases bL : b = X.env.locals
          · subst bL
            have z1 : G.get? X.env.locals = some o := z1
            rw [gL] at z1
            cases z1
            exact u67 _ _ g6 z2
          · obtain ⟨sl, y⟩ := (up2.trans up5) b o ((sbG.2 b bL).symm.trans z1) z2
            exact u67 b { o with slots := sl } ((sb.2 b bL).trans y) z2
      · have fin : ∀ {xe : Value → Shared → Prop} {σ6 : L2.St} {H6 : Hp} {Q : Shared → Prop}, Inv (suiteA X a ((a, oe4) :: (X.pn ++ pins)) xe) [] σ6 H6 s6 → (∀ s7, Inv X pins (σ6.set i none) H6 s7 → Q s7) →
            wpAny (model X.prog X.w) X.A (do bindName X.env n .none; unbindBehindTheSuite X.env n pos') (fun _ s7 => Q s7) X.xe s6 := fun {xe σ6 H6 Q} S6 hq => gone_ok (of_suiteA S6 ok) hN hi hln hq
        cases f with
        | next =>
          obtain ⟨σ6, H6, S6, q6⟩ := hsp
          exact fin S6 fun s7 J7 => ⟨_, _, J7, q6⟩
        | brk =>
          obtain ⟨σ6, H6, S6, q6⟩ := hsp
          exact fin S6 fun s7 J7 => ⟨_, _, J7, q6⟩
        | cont =>
          obtain ⟨σ6, H6, S6, q6⟩ := hsp
          exact fin S6 fun s7 J7 => ⟨_, _, J7, q6⟩
        | ret u =>
          obtain ⟨v6, σ6, H6, S6, r6, q6⟩ := hsp
          exact fin S6 fun s7 J7 => ⟨_, _, _, J7, r6, q6⟩
    | false =>
      show wpAny _ X.A (handleBy (.ref a) X.env []) _ _ _
      refine wpAny_handleBy_nil ?_
      obtain ⟨_, _, _, oe, vs, T, oT, ts', he, hz, hd, h1, hr⟩ := id fl3
      unfold PySem.passOn
      refine wpAny_bind (wpAny_field he hd h1 ?_)
      rw [if_neg (show ¬ ((Value.ref T == Value.none) = true) from by simp), hf]
      have fin : wpAny (model X.prog X.w) X.A (setFlight (.ref a) (some X.env.locals)) (fun _ s4 => wpAny (model X.prog X.w) X.A (throw (.ref a) : Sem Flow) (SP X pins D) X.xe s4) X.xe { s' with heap := h3 } :=
        HandSPX.setFlight_upZ fl3 fun h4 hh4 up4 => wpAny_throw (tk _ _ ⟨a, B, sI, pins, σ', H', cls, d, rfl, J, nb, (up.trans up3).trans up4, .inr (.inr (by rw [hs]; exact hh4)), na, os, ag, hno rfl⟩)
      first
        | exact wpAny_bind (wpAny_pure (wpAny_bind fin))
        | exact wpAny_bind fin
  · cases f with
    | next =>
      obtain ⟨σ', H', J', q⟩ := hsp
      exact wpAny_execs_nil ⟨σ', H', J'.ofTry ok, q⟩
    | brk =>
      obtain ⟨σ', H', J', q⟩ := hsp
      exact ⟨σ', H', J'.ofTry ok, q⟩
    | cont =>
      obtain ⟨σ', H', J', q⟩ := hsp
      exact ⟨σ', H', J'.ofTry ok, q⟩
    | ret u =>
      obtain ⟨v, σ', H', J', r, q⟩ := hsp
      exact ⟨v, σ', H', J'.ofTry ok, r, q⟩
end
end Rt
set_option Elab.async false
set_option linter.all false
set_option maxRecDepth 100000
set_option maxHeartbeats 4000000
namespace Rt
open PySem PySem.Spec PyProof.Rows L2
open C8 (Cal Met Mak pe_c pe_mk pe_mt pe_mt0 pe_gc)
local macro_rules | `(tactic| walk_at "bd") => `(tactic| first
  | assumption | exact Bd.lit (by decide) | exact Bd.sub (by walk_at "bd") (by walk_at "bd") | exact Bd.add (by walk_at "bd") (by walk_at "bd") | exact Bd.mul (by walk_at "bd") (by walk_at "bd") | exact Bd.neg (by walk_at "bd") | exact Bd.lit (by decide))
local macro_rules | `(tactic| walk_at "r") => `(tactic| with_reducible first
  | refine r_seq ?_ | refine r_ret ?_ | refine r_asg ?_ | refine r_drop ?_ | refine r_op ?_ | refine r_un ?_ | refine r_c ?_ | refine r_cons ?_ | refine r_nil ?_ | refine r_i0 ?_ | refine r_U ?_ | refine r_name ?_ | refine r_if ?_ | refine r_test ?_ | refine r_tB ?_ | refine r_bl ?_
  | refine r_call ?_ | refine r_meth ?_ | refine r_fld ?_ | refine r_tup ?_ | refine r_lst ?_ | refine r_cb ?_ | refine r_andV ?_ | refine r_orV ?_ | refine r_notV ?_ | refine r_and ?_ | refine r_or ?_ | refine r_not ?_ | refine r_eqI ?_ | refine r_neI ?_ | refine r_eqB ?_ | refine r_neB ?_
  | refine r_next ?_ | refine r_par ?_ | refine r_lc ?_ | refine r_yes ?_ | refine r_iList ?_ | refine r_iRng1 ?_ | refine r_lstRg ?_ | refine r_rg1 ?_ | refine r_gcons ?_ | refine r_gnil ?_ | refine r_var (by with_unfolding_all rfl) ?_)
local macro_rules | `(tactic| walk_at "s") => `(tactic| first
  | walk_at "r" | (with_reducible refine r_itT rfl ?_) | (with_reducible refine r_itF rfl ?_) | (with_reducible refine r_ixT (by assumption) (by with_unfolding_all rfl) ?_) | ((with_reducible refine r_iM ?_ ?_); exact bd_mul (by walk_at "bd") (by walk_at "bd") (by decide)) | (with_reducible refine r_gtup (by assumption) (by with_unfolding_all rfl) ?_) | refine RoomAt.meth (by assumption) ?_)
local macro_rules | `(tactic| walk_at "d") => `(tactic| try dsimp only [cxOf, Cx.nox, Cx.wish])

local macro_rules | `(tactic| walk_at "s") => `(tactic| with_reducible first
  | refine r_sl ?_ | refine r_po0 ?_ | refine r_po1 ?_ | refine r_for ?_ | refine r_bm ?_ | refine r_make ?_ | refine r_sfld ?_ | refine r_inl ?_)

local macro_rules | `(tactic| walk_at "s") => `(tactic| with_reducible first
  | refine r_callS ?_ | refine r_methE ?_ | refine r_iRng3 ?_ | refine r_mkO ?_)

section
variable {X : Cx} {a C : Addr} {oe : Obj} {cls : Value} {d : Option Addr} {pn : List (Addr × Obj)} {xe : Value → Shared → Prop} {e : Expr} {te : TE} {pos : Pos} {n : Str}
/-- a field of the exception that is handled -/
theorem pe_xfA (T : XfC X.K C) (no : PySem.W.findIn X.K (.ref C) n = some none) (hz : Zc cls d oe) (hf : ∃ vs, oe.data = .fields vs) (he : PE (suiteA X a ((a, oe) :: pn) xe) e te) (hb : attributeBase e n X.env (eval e X.env) = eval e X.env := by rfl) :
    PE (suiteA X a ((a, oe) :: pn) xe) (.Attribute e n pos) (tXf a cls d C n te) := by
  refine ⟨fun pins s σ H Q I h => attr_of hb (thn (he.run pins s σ H _ I h) fun u s1 ⟨x, H1, J, rx, ex, ec, dd, fs, v, ed, ea, l, q⟩ => ?_)⟩
  subst ex ec ed
  obtain rfl : u = Value.ref a := rx
  obtain ⟨mA, hns, hr⟩ := (J.hok dd _ ea : ObjOk X.prog X.w H1 s1.heap dd (.xd fs))
  obtain ⟨od, ho, hl⟩ := lookIn_ns hns
  obtain ⟨y, hy, ry⟩ := RelO.some_of (v := v) (o := mA n) (by rw [← l]; exact hr n)
  obtain ⟨vs, hd⟩ := hf
  have at_ : PySem.W.InstAt s1.heap a oe C (some od) := ⟨(J.pin (a, oe) (List.mem_append_left _ List.mem_cons_self)).1, hz.1, by unfold PySem.W.notCls; rw [hd] <;> rfl, by rw [hz.2]; exact ho⟩
  exact HandSPX.exc_get J.kIn at_ T.ga T.gg T.exC (PySem.W.findObj_own T.hdC no rfl (by rw [hl, hy])) (handed_of ry) ⟨v, H1, J.tok _, ry, q⟩
theorem r_xf {σ : L2.St} {H : Hp} {Q : VK} (h : te σ H fun x H1 => x = .ref a ∧ cls = .ref C ∧ ∃ (dd : Addr) (fs : List (Str × V)) (v : V), d = some dd ∧ H1 dd = some (.xd fs) ∧ fs.lookup n = some v ∧ Q v H1) : tXf a cls d C n te σ H Q := h
end
section
variable {P : Program} {w : World} {K : PySem.W.Frag} {mg : Str → Option Value} {base : Heap}
theorem ref_initH (T : Tx K mg base) : ∃ fd, L2H.FnH P w K mg base CX0 1 (He.ma K (He.ga K "Refused") "__init__") fd ["self", "numbers"] (spRefI (He.ga K "Refused")) ∧ Binds K fd ["self", "numbers"] [] := by
  obtain ⟨fd, F⟩ := T.f_Refused_init
  have b := F.binds (ps := ["self", "numbers"]) fun _ _ _ _ _ _ us hl => match us, hl with | [_, _], _ => rfl
  obtain ⟨oc, od, kV, doc, pm, an, cdv, ct, osl, rfl, lk, hcd⟩ := F.ex
  refine ⟨_, L2H.fn_ofH lk hcd sc_Refused_init (fun vs H Q E h => ?_) (fun A outer s H vs Q E p hot hr h => ⟨_, pss_one (ps_ost (pv 0) (pv 1)), ?_⟩), b⟩
  · obtain ⟨a, x, rfl, _⟩ := h
    rfl
  · obtain ⟨a, x, rfl, ha, k⟩ := h
    refine ⟨_, by with_unfolding_all rfl, _, by with_unfolding_all rfl, a, He.ga K "Refused", rfl, T.oR, T.a_Refused_numbers, .inl ⟨ha, fun dx hd ne => ?_⟩⟩
    exact k dx hd ne
def spRoomIn (K : PySem.W.Frag) : Sp := fun vs H Q E => ∃ (l : Addr) (told : List Int), vs = [.ref l] ∧ SqL K H l (told.map V.int) ∧ told.length ≤ 100000 ∧
  (iFault told = none → ∀ H' x, Same H H' → RoomAt K H' x (roomT told (tellN told)) → Q (.ref x) H') ∧
  ∀ k i : Nat, iFault told = some (k, i) → OutE K Q E H (.error [-5, (k : Int), (i : Int)])
theorem ok_room_in (T : Tx K mg base) : CalE (L2.CX P w) P w K mg base 9 "room_in" (spRoomIn K) := by
  obtain ⟨fdR, FR, BR⟩ := ref_initH (P := P) (w := w) T
  refine mkE T.f_room_in T.g_room_in sc_room_in (fun _ _ _ _ _ _ us hl => match us, hl with | [_], _ => rfl) (fun vs H Q E h => ?_) (fun f cdv A outer s H vs Q E hr h => ⟨_, (pss_cons (ps_try_asX (i := 2) rfl rfl sc_room_in.nd rfl rfl ⟨rfl, by decide, .inl T.g_Fault⟩ (L2N.Takes.of2 (L2.takes_of rfl rfl rfl rfl)) (L2.takes_of rfl rfl rfl rfl)
      (fun W pn xe tk _ => pss_one (ps_set (i := 1) sc_room_in.nd rfl (Or.inl rfl) (pe_cE (ok_read_room T) hr (by decide) rfl (fun σ => L2N.passAt tk σ) (pa_cons (pv 0) pa_nil))))
      (fun a oe cls d pn xe hz hf tk hot => pss_one (L2H.ps_raiseH hot tk (L2H.pmk5_oexH T.oR T.iR.1 T.iR.2 FR (L2H.roomH_mark (hr.mono (by decide)) _) hot BR pass0 (by rfl) T.g_Refused (pa_cons (pe_lst (pa_cons (pe_un un_neg pe_int) (pa_cons (pe_xfA T.xF T.a_Fault_rule hz.zc hf (pv 2)) (pa_cons (pe_xfA T.xF T.a_Fault_wall hz.zc hf (pv 2)) pa_nil)))) pa_nil)).pmk)))
      (pss_one (ps_ret (pv 1)))), ?_⟩)
  · obtain ⟨l, told, rfl, _⟩ := h
    rfl
  · obtain ⟨l, told, rfl, hl, big, k0, ke⟩ := h
    walk_at "d"
    repeat walk_at "s"
    refine ⟨l, told, rfl, hl, big, fun nf H' x S R => ?_, fun k i fx H' d S hd => ?_⟩
    · repeat walk_at "s"
      exact k0 nf H' x S R
    · refine ⟨true, T.e_Fault_Fault, fun _ a ha => ?_, fun q => nomatch q⟩
      have S1 := S.trans (same_new (o := .xd (fauF (.int (k : Int)) (.int (i : Int)))) hd)
      have gd : upd H' d (.xd (fauF (.int (k : Int)) (.int (i : Int)))) d = some (.xd (fauF (.int (k : Int)) (.int (i : Int)))) := upd_same
      generalize upd H' d (.xd (fauF (.int (k : Int)) (.int (i : Int)))) = H1 at *
      repeat walk_at "s"
      refine r_xf ?_
      repeat walk_at "s"
      refine ⟨rfl, rfl, d, _, _, rfl, gd, (lk_past (by decide)).trans lk_here, ?_⟩
      repeat walk_at "s"
      refine r_xf ?_
      repeat walk_at "s"
      refine ⟨rfl, rfl, d, _, _, rfl, gd, lk_here, ?_⟩
      repeat walk_at "s"
      refine ⟨by show 3 ≤ sizeLine; decide, fun D hD => ?_⟩
      have S2 := S1.trans (same_new (o := .lst [V.int (-5), V.int (k : Int), V.int (i : Int)]) hD)
      have gD : upd H1 D (.lst [V.int (-5), V.int (k : Int), V.int (i : Int)]) D = some (.lst ([-5, (k : Int), (i : Int)].map V.int)) := upd_same
      generalize upd H1 D (.lst [V.int (-5), V.int (k : Int), V.int (i : Int)]) = H2 at *
      repeat walk_at "s"
      refine post_ref fun dx hdx => ?_
      have nd : D ≠ dx := fun q => by rw [q, hdx] at gD; cases gD
      refine ke k i fx _ dx D (S2.trans (same_new hdx)) ((upd_ne nd).trans gD) upd_same ?_
      cases z : H dx with
      | none => rfl
      | some u => rw [S2 _ _ z] at hdx; cases hdx
end
end Rt
set_option Elab.async false
set_option linter.all false
set_option maxRecDepth 100000
set_option maxHeartbeats 4000000
namespace Rt
open PySem PySem.Spec PyProof.Rows L2
open C8 (Cal Met Mak pe_c pe_mk pe_mt pe_mt0 pe_gc)
local macro_rules | `(tactic| walk_at "bd") => `(tactic| first
  | assumption | exact Bd.lit (by decide) | exact Bd.sub (by walk_at "bd") (by walk_at "bd") | exact Bd.add (by walk_at "bd") (by walk_at "bd") | exact Bd.mul (by walk_at "bd") (by walk_at "bd") | exact Bd.neg (by walk_at "bd") | exact Bd.lit (by decide))
local macro_rules | `(tactic| walk_at "r") => `(tactic| with_reducible first
  | refine r_seq ?_ | refine r_ret ?_ | refine r_asg ?_ | refine r_drop ?_ | refine r_op ?_ | refine r_un ?_ | refine r_c ?_ | refine r_cons ?_ | refine r_nil ?_ | refine r_i0 ?_ | refine r_U ?_ | refine r_name ?_ | refine r_if ?_ | refine r_test ?_ | refine r_tB ?_ | refine r_bl ?_
  | refine r_call ?_ | refine r_meth ?_ | refine r_fld ?_ | refine r_tup ?_ | refine r_lst ?_ | refine r_cb ?_ | refine r_andV ?_ | refine r_orV ?_ | refine r_notV ?_ | refine r_and ?_ | refine r_or ?_ | refine r_not ?_ | refine r_eqI ?_ | refine r_neI ?_ | refine r_eqB ?_ | refine r_neB ?_
  | refine r_next ?_ | refine r_par ?_ | refine r_lc ?_ | refine r_yes ?_ | refine r_iList ?_ | refine r_iRng1 ?_ | refine r_lstRg ?_ | refine r_rg1 ?_ | refine r_gcons ?_ | refine r_gnil ?_ | refine r_var (by with_unfolding_all rfl) ?_)
local macro_rules | `(tactic| walk_at "s") => `(tactic| first
  | walk_at "r" | (with_reducible refine r_itT rfl ?_) | (with_reducible refine r_itF rfl ?_) | (with_reducible refine r_ixT (by assumption) (by with_unfolding_all rfl) ?_) | ((with_reducible refine r_iM ?_ ?_); exact bd_mul (by walk_at "bd") (by walk_at "bd") (by decide)) | (with_reducible refine r_gtup (by assumption) (by with_unfolding_all rfl) ?_) | refine RoomAt.meth (by assumption) ?_)
local macro_rules | `(tactic| walk_at "d") => `(tactic| try dsimp only [cxOf, Cx.nox, Cx.wish])

local macro_rules | `(tactic| walk_at "s") => `(tactic| with_reducible first
  | refine r_sl ?_ | refine r_po0 ?_ | refine r_po1 ?_ | refine r_for ?_ | refine r_bm ?_ | refine r_make ?_ | refine r_sfld ?_ | refine r_inl ?_)

local macro_rules | `(tactic| walk_at "s") => `(tactic| with_reducible first
  | refine r_callS ?_ | refine r_methE ?_ | refine r_iRng3 ?_ | refine r_mkO ?_)

section
variable {P : Program} {w : World} {K : PySem.W.Frag} {mg : Str → Option Value} {base : Heap}
theorem pe_fldK {X : Cx} {K : PySem.W.Frag} {e : Expr} {f : Str} {pos : Pos} {ta : TE} (hK : X.K = K) (he : PE X e ta) (hb : attributeBase e f X.env (eval e X.env) = eval e X.env) : PE X (.Attribute e f pos) (tFld K ta f) := hK ▸ pe_fld he hb
theorem none_of {H H1 : Hp} {d : Addr} (S : Same H H1) (h : H1 d = none) : H d = none := by
  cases z : H d with
  | none => rfl
  | some u => rw [S _ _ z] at h; cases h
theorem outE_err {K : PySem.W.Frag} {Q Q' : VK} {E : XK} {H H1 : Hp} {l : List Int} (S : Same H H1) (k : OutE K Q E H (.error l)) : OutE K Q' E H1 (.error l) := fun H' d D S' g1 g2 nd => k H' d D (S.trans S') g1 g2 (none_of S nd)
theorem book_ok {book : List Int} (h : ∀ x ∈ book, 0 ≤ x) (k : iBook book < 0) : (book.map Int.toNat).length = 36 ∧ ∀ x ∈ book.map Int.toNat, x ≤ 32768 := by
  unfold iBook at k
  by_cases c : book.length ≠ 36
  · rw [if_pos c] at k
    omega
  · rw [if_neg c] at k
    refine ⟨by rw [List.length_map]; omega, fun x hx => ?_⟩
    obtain ⟨y, hy, rfl⟩ := List.mem_map.mp hx
    cases f : book.findIdx? fun x => decide (32768 < x) with
    | some i => rw [f] at k; dsimp only at k; omega
    | none =>
      rw [List.findIdx?_eq_none_iff] at f
      have := of_decide_eq_false (f y hy)
      omega
theorem r_nameS {σ σ' : L2.St} {H : Hp} {v : V} {i : Nat} {Q : L2.St → Hp → Prop} (e : σ.set i (some v) = σ') (h : Q σ' H) : gName i v σ H Q := by
  subst e
  exact h
theorem range_get {α β : Type} (l : List α) (g : α → β) (d : β) : ((List.range l.length).map fun j => (l[j]?).elim d g) = l.map g := by
  refine List.ext_getElem? fun j => ?_
  rw [List.getElem?_map, List.getElem?_map]
  by_cases h : j < l.length
  · rw [List.getElem?_range h, List.getElem?_eq_getElem h]
    show some ((l[j]?).elim d g) = _
    rw [List.getElem?_eq_getElem h]
    rfl
  · rw [List.getElem?_eq_none (by rw [List.length_range]; omega), List.getElem?_eq_none (by omega)]
    rfl
theorem PairsAt.same {K : PySem.W.Frag} {H H' : Hp} {l : Addr} {ps : List (PathI × Nat)} (h : PairsAt K H l ps) (e : Same H H') : PairsAt K H' l ps := by
  obtain ⟨ts, h1, h2, h3⟩ := h
  refine ⟨ts, e _ _ h1, h2, fun j t p a b => ?_⟩
  obtain ⟨pa, dx, lw, k1, k2, k3⟩ := h3 j t p a b
  exact ⟨pa, dx, lw, e.tup k1, e _ _ k2, e _ _ k3⟩
structure NumsAt (K : PySem.W.Frag) (H : Hp) (l : Addr) (s e : Q4) (most band rate speed : Nat) : Prop where
  at_ : SqL K H l [.int s.x, .int s.y, .int s.z, .int e.x, .int e.y, .int e.z, .int (most : Int), .int (band : Int), .int (rate : Int), .int (speed : Int)]
def spCall2 (K : PySem.W.Frag) : Sp := fun vs H Q E => ∃ (ln lr ra rb : Addr) (s e : Q4) (most band rate speed : Nat) (told book : List Int), vs = [.ref ln, .ref lr] ∧ NumsAt K H ln s e most band rate speed ∧ SqL K H lr [.ref ra, .ref rb] ∧ SqL K H ra (told.map V.int) ∧ SqL K H rb (book.map V.int) ∧
  s.w = 1 ∧ e.w = 1 ∧ B4 100 s ∧ B4 100 e ∧ told.length ≤ 100000 ∧ (∀ x ∈ book, 0 ≤ x) ∧ (most ≤ 4 → (tellN told + 2) ^ most ≤ 20000) ∧ OutE K Q E H (iCall2 s e most band rate speed told book)
theorem ok_taps (T : Tx K mg base) : CalE (L2.CX P w) P w K mg base 12 "taps" (spCall2 K) := by
  refine mkE T.f_taps T.g_taps sc_taps (fun _ _ _ _ _ _ us hl => match us, hl with | [_, _], _ => rfl) (fun vs H Q E h => ?_) (fun f cdv A outer s H vs Q E hr h => ⟨_, (pss_cons (ps_asg (pe_slice (r := rSlL K) sl_list (pv 0) (po_some pe_int) po_none) (pg_lst rfl (pgs_cons (pg_name (i := 2) sc_taps.nd rfl (Or.inl rfl)) (pgs_cons (pg_name (i := 3) sc_taps.nd rfl (Or.inl rfl)) (pgs_cons (pg_name (i := 4) sc_taps.nd rfl (Or.inr rfl)) (pgs_cons (pg_name (i := 5) sc_taps.nd rfl (Or.inr rfl)) pgs_nil))))))
      (pss_cons (ps_set (i := 6) sc_taps.nd rfl (Or.inl rfl) (pe_cE (ok_room_in T) hr (by decide) rfl (fun σ => L2.passAt (L2.takes_of rfl rfl rfl rfl) σ) (pa_cons (pe_ix (r := rIxL K) ix_list (pv 1) pe_int (fun _ _ => rfl)) pa_nil)))
      (pss_cons (ps_set (i := 7) sc_taps.nd rfl (Or.inl rfl) (pe_c (ok_book_fault T) hr (by decide) rfl (pa_cons (pe_ix (r := rIxL K) ix_list (pv 1) pe_int (fun _ _ => rfl)) pa_nil)))
      (pss_cons (ps_expr (pe_cE (ok_must_taps T) hr (by decide) rfl (fun σ => L2.passAt (L2.takes_of rfl rfl rfl rfl) σ) (pa_cons (pe_cmpR op_lt (pv 7) pe_int (nomark _)) (pa_cons (pe_lst (pa_cons (pe_un un_neg pe_int) (pa_cons (pv 7) pa_nil))) pa_nil))))
      (pss_cons (ps_expr (pe_cE (ok_must_taps T) hr (by decide) rfl (fun σ => L2.passAt (L2.takes_of rfl rfl rfl rfl) σ) (pa_cons (pe_and (pe_c (ok_is_rate T) hr (by decide) rfl (pa_cons (pv 4) (pa_cons (pv 5) pa_nil))) (pe_and (pe_cmpR op_le (pv 2) (pe_gc rfl T.c_MOST_TURNS) (nomark _)) (pe_one (pe_cmpR op_le (pv 3) (pe_gc rfl T.c_MOST_BAND) (nomark _))))) (pa_cons (pe_lst (pa_cons (pe_un un_neg pe_int) pa_nil)) pa_nil))))
      (pss_cons (ps_set (i := 8) sc_taps.nd rfl (Or.inl rfl) (pe_tup (pa_cons (pe_ix (r := rIxL K) ix_list (pv 0) pe_int (fun _ _ => rfl)) (pa_cons (pe_ix (r := rIxL K) ix_list (pv 0) pe_int (fun _ _ => rfl)) (pa_cons (pe_ix (r := rIxL K) ix_list (pv 0) pe_int (fun _ _ => rfl)) (pa_cons pe_int pa_nil))))))
      (pss_cons (ps_set (i := 9) sc_taps.nd rfl (Or.inl rfl) (pe_tup (pa_cons (pe_ix (r := rIxL K) ix_list (pv 0) pe_int (fun _ _ => rfl)) (pa_cons (pe_ix (r := rIxL K) ix_list (pv 0) pe_int (fun _ _ => rfl)) (pa_cons (pe_ix (r := rIxL K) ix_list (pv 0) pe_int (fun _ _ => rfl)) (pa_cons pe_int pa_nil))))))
      (pss_cons (ps_expr (pe_cE (ok_must_taps T) hr (by decide) rfl (fun σ => L2.passAt (L2.takes_of rfl rfl rfl rfl) σ) (pa_cons (pe_and (pe_mt (ok_Room_is_inside T) hr (by decide) (pv 6) (pa_cons (pv 8) pa_nil)) (pe_one (pe_mt (ok_Room_is_inside T) hr (by decide) (pv 6) (pa_cons (pv 9) pa_nil)))) (pa_cons (pe_lst (pa_cons (pe_un un_neg pe_int) pa_nil)) pa_nil))))
      (pss_cons (ps_setLc (i := 10) (own := [("path", 12)]) rfl sc_taps.nd rfl rfl (sw_true rfl rfl rfl (by decide +kernel)) (pi_list (pe_c (ok_paths T) hr (by decide) rfl (pa_cons (pv 6) (pa_cons (pv 8) (pa_cons (pv 9) (pa_cons (pv 2) pa_nil)))))) (blkOk_by (own := [("path", 12)]) (N := ["numbers", "rows", "most", "band", "rate", "speed", "room", "fault", "start", "end", "pairs", "found", "path", "far"]) (sc := defScope s_taps) (by decide +kernel)) (fun _ _ _ _ _ => (pg_name (i := 12) sc_taps.nd rfl (Or.inl rfl))) (fun _ _ _ _ _ => pts_nil) (fun _ _ _ _ _ => (pe_tup (pa_cons (pv 12) (pa_cons (pe_c (ok_delay_of T) hr (by decide) rfl (pa_cons (pe_fldK (K := K) (by rfl) (pv 12) (by rfl)) (pa_cons (pv 4) (pa_cons (pv 5) pa_nil)))) pa_nil)))))
      (pss_cons (ps_expr (pe_cE (ok_must_taps T) hr (by decide) rfl (fun σ => L2.passAt (L2.takes_of rfl rfl rfl rfl) σ) (pa_cons (pe_callB (cr_all rfl) (by rfl) T.n_all (by decide +kernel) (pa_cons (pe_lc (own := [("path", 12), ("far", 13)]) rfl sc_taps.nd (pi_list (pv 10)) (blkOk_by (own := [("path", 12), ("far", 13)]) (N := ["numbers", "rows", "most", "band", "rate", "speed", "room", "fault", "start", "end", "pairs", "found", "path", "far"]) (sc := defScope s_taps) (by decide +kernel)) (fun _ _ _ _ _ => (pg_tupK (K := K) (n := 2) rfl rfl rfl (pgs_cons (pg_name (i := 12) sc_taps.nd rfl (Or.inl rfl)) (pgs_cons (pg_name (i := 13) sc_taps.nd rfl (Or.inl rfl)) pgs_nil)))) (fun _ _ _ _ _ => pts_nil) (fun _ _ _ _ _ => (pe_cmpR op_le (pv 13) (pe_gc rfl T.c_MOST_DELAY) (nomark _)))) pa_nil)) (pa_cons (pe_lst (pa_cons (pe_un un_neg pe_int) pa_nil)) pa_nil))))
      (pss_cons (ps_set (i := 11) sc_taps.nd rfl (Or.inl rfl) (pe_c (ok_taps_of T) hr (by decide) rfl (pa_cons (pv 6) (pa_cons (pe_ix (r := rIxL K) ix_list (pv 1) pe_int (fun _ _ => rfl)) (pa_cons (pv 3) (pa_cons (pv 10) pa_nil))))))
      (pss_cons (ps_expr (pe_cE (ok_must_taps T) hr (by decide) rfl (fun σ => L2.passAt (L2.takes_of rfl rfl rfl rfl) σ) (pa_cons (pe_cmpR op_le (pe_callB call_len_seq (by rfl) T.n_len PySem.boot_len (pa_cons (pv 11) pa_nil)) (pe_gc rfl T.c_MOST_TAPS) (nomark _)) (pa_cons (pe_lst (pa_cons (pe_un un_neg pe_int) pa_nil)) pa_nil))))
      (pss_one (ps_ret (pe_op op_cat (pe_lst (pa_cons pe_int pa_nil)) (pe_c (ok_flat T) hr (by decide) rfl (pa_cons (pv 11) pa_nil))))))))))))))))), ?_⟩)
  · obtain ⟨ln, lr, ra, rb, s, e, most, band, rate, speed, told, book, rfl, _⟩ := h
    rfl
  · obtain ⟨ln, lr, ra, rb, s, e, most, band, rate, speed, told, book, rfl, ⟨hn⟩, hr', ha, hb, s1, e1, bs, be, tl, bn, few, k⟩ := h
    walk_at "d"
    repeat walk_at "s"
    have cut : cutV [V.int s.x, V.int s.y, V.int s.z, V.int e.x, V.int e.y, V.int e.z, V.int (most : Int), V.int (band : Int), V.int (rate : Int), V.int (speed : Int)] (some 6) none = [V.int (most : Int), V.int (band : Int), V.int (rate : Int), V.int (speed : Int)] := rfl
    refine ⟨ln, _, rfl, hn, fun M hM => ?_⟩
    rw [cut]
    have S1 := same_new (o := .lst [V.int (most : Int), V.int (band : Int), V.int (rate : Int), V.int (speed : Int)]) hM
    have gM : SqL K (upd H M (.lst [V.int (most : Int), V.int (band : Int), V.int (rate : Int), V.int (speed : Int)])) M [V.int (most : Int), V.int (band : Int), V.int (rate : Int), V.int (speed : Int)] := SqL.of upd_same
    generalize upd H M (.lst [V.int (most : Int), V.int (band : Int), V.int (rate : Int), V.int (speed : Int)]) = H1 at *
    refine r_glst gM rfl ?_
    repeat walk_at "s"
    refine r_ixL (S1.lst hr') rfl ?_
    repeat walk_at "s"
    refine ⟨ra, told, rfl, S1.lst ha, tl, fun nf H2 x S2 R => ?_, fun kk ii fx => ?_⟩
    rotate_left
    · unfold iCall2 at k
      rw [fx] at k
      exact outE_err S1 k
    have S02 := S1.trans S2
    have RO := roomOk_T nf
    unfold iCall2 at k
    rw [nf] at k
    dsimp only at k
    repeat walk_at "s"
    refine r_ixL (S02.lst hr') rfl ?_
    repeat walk_at "s"
    refine ⟨rb, book, rfl, S02.lst hb, fun H3 S3 => ?_⟩
    have S03 := S02.trans S3
    have R3 := R.same S3
    repeat walk_at "s"
    refine ⟨sz2, fun N4 hN4 => ?_⟩
    have S34 := same_new (o := .lst [V.int (-6), V.int (iBook book)]) hN4
    have S4 := S03.trans S34
    have gN4 : upd H3 N4 (.lst [V.int (-6), V.int (iBook book)]) N4 = some (.lst ([-6, iBook book].map V.int)) := upd_same
    have R4 := R3.same S34
    generalize upd H3 N4 (.lst [V.int (-6), V.int (iBook book)]) = H4 at *
    repeat walk_at "s"
    refine outE_must S4 gN4 (fun c1 => ?_) (fun c1 => by
      have := of_decide_eq_false c1
      rw [if_pos (by omega)] at k
      exact k)
    have c1 := of_decide_eq_true c1
    rw [if_neg (by omega)] at k
    obtain ⟨b36, bfew⟩ := book_ok bn c1
    have finM : ∀ (m : Int) (H' : Hp) (Q' : VK), OutE K Q E H (.error [m]) → Same H H' → ∀ N, H' N = none → spMustT (He.ga K "Refused") [.bl false, .ref N] (upd H' N (.lst [V.int m])) Q' (fun cls d H => E cls d H) := fun m H' Q' k S N hN =>
      outE_must (l := [m]) (S.trans (same_new hN)) upd_same (fun z => nomatch z) (fun _ => k)
    repeat walk_at "s"
    refine ⟨_, _, rfl, ?_⟩
    repeat walk_at "s"
    refine r_iteB (fun d1 => ?_) fun d1 => ?_
    rotate_left
    · repeat walk_at "s"
      refine ⟨szA, fun N hN => ?_⟩
      repeat walk_at "s"
      rw [if_pos (by rw [show rateOk (rate : Int) (speed : Int) = false from d1]; rfl)] at k
      exact finM _ _ _ k S4 N hN
    repeat walk_at "s"
    refine r_iteB (fun d2 => ?_) fun d2 => ?_
    rotate_left
    · repeat walk_at "s"
      refine ⟨szA, fun N hN => ?_⟩
      repeat walk_at "s"
      have d2 := of_decide_eq_false d2
      rw [if_pos (by rw [decide_eq_false (show ¬ most ≤ 4 by omega), Bool.false_and, Bool.and_false])] at k
      exact finM _ _ _ k S4 N hN
    have m4 : most ≤ 4 := by have := of_decide_eq_true d2; omega
    repeat walk_at "s"
    refine ⟨szA, fun N5 hN5 => ?_⟩
    have S45 := same_new (o := .lst [V.int (-1)]) hN5
    have S5 := S4.trans S45
    have gN5 : upd H4 N5 (.lst [V.int (-1)]) N5 = some (.lst ([(-1 : Int)].map V.int)) := upd_same
    have R5 := R4.same S45
    generalize upd H4 N5 (.lst [V.int (-1)]) = H5 at *
    repeat walk_at "s"
    refine outE_must S5 gN5 (fun d3 => ?_) (fun d3 => by
      have d3 := of_decide_eq_false d3
      rw [if_pos (by rw [decide_eq_false (show ¬ band ≤ 3 by omega), Bool.and_false, Bool.and_false])] at k
      exact k)
    have b3 : band ≤ 3 := by have := of_decide_eq_true d3; omega
    rw [if_neg (by rw [show rateOk (rate : Int) (speed : Int) = true from d1, decide_eq_true m4, decide_eq_true b3]; decide)] at k
    have fw := few m4
    repeat walk_at "s"
    refine r_ixL (S5.lst hn) rfl ?_
    repeat walk_at "s"
    refine r_ixL (S5.lst hn) rfl ?_
    repeat walk_at "s"
    refine r_ixL (S5.lst hn) rfl ?_
    repeat walk_at "s"
    refine ⟨sz4, fun pa hpa => ?_⟩
    have S56 := same_new (o := .tup [V.int s.x, V.int s.y, V.int s.z, V.int 1]) hpa
    have S6 := S5.trans S56
    have gs : P4 K (upd H5 pa (.tup [V.int s.x, V.int s.y, V.int s.z, V.int 1])) pa s := by
      show SqT K _ pa [.int s.x, .int s.y, .int s.z, .int s.w]
      rw [s1]
      exact SqT.of upd_same
    have R6 := R5.same S56
    generalize upd H5 pa (.tup [V.int s.x, V.int s.y, V.int s.z, V.int 1]) = H6 at *
    repeat walk_at "s"
    refine r_ixL (S6.lst hn) rfl ?_
    repeat walk_at "s"
    refine r_ixL (S6.lst hn) rfl ?_
    repeat walk_at "s"
    refine r_ixL (S6.lst hn) rfl ?_
    repeat walk_at "s"
    refine ⟨sz4, fun pb hpb => ?_⟩
    have S67 := same_new (o := .tup [V.int e.x, V.int e.y, V.int e.z, V.int 1]) hpb
    have S7 := S6.trans S67
    have ge : P4 K (upd H6 pb (.tup [V.int e.x, V.int e.y, V.int e.z, V.int 1])) pb e := by
      show SqT K _ pb [.int e.x, .int e.y, .int e.z, .int e.w]
      rw [e1]
      exact SqT.of upd_same
    have gs7 := S67.tup gs
    have R7 := R6.same S67
    generalize upd H6 pb (.tup [V.int e.x, V.int e.y, V.int e.z, V.int 1]) = H7 at *
    clear R6 R5 R4 R3 gs
    repeat walk_at "s"
    refine ⟨x, pa, _, s, rfl, R7, gs7, bs.mono (by decide), fun H8 S78 => ?_⟩
    have S8 := S7.trans S78
    have R8 := R7.same S78
    have gs8 := S78.tup gs7
    have ge8 := S78.tup ge
    clear R7 gs7 ge
    repeat walk_at "s"
    refine r_iteB (fun i1 => ?_) fun i1 => ?_
    rotate_left
    · repeat walk_at "s"
      refine ⟨szA, fun N hN => ?_⟩
      repeat walk_at "s"
      rw [if_pos (by rw [i1]; rfl)] at k
      exact finM _ _ _ k S8 N hN
    repeat walk_at "s"
    refine ⟨x, pb, _, e, rfl, R8, ge8, be.mono (by decide), fun H9 S89 => ?_⟩
    have S9 := S8.trans S89
    have R9 := R8.same S89
    have gs9 := S89.tup gs8
    have ge9 := S89.tup ge8
    clear R8 gs8 ge8
    repeat walk_at "s"
    refine ⟨szA, fun N10 hN10 => ?_⟩
    have S910 := same_new (o := .lst [V.int (-3)]) hN10
    have S10 := S9.trans S910
    have gN10 : upd H9 N10 (.lst [V.int (-3)]) N10 = some (.lst ([(-3 : Int)].map V.int)) := upd_same
    have R10 := R9.same S910
    have gs10 := S910.tup gs9
    have ge10 := S910.tup ge9
    clear R9 gs9 ge9
    generalize upd H9 N10 (.lst [V.int (-3)]) = H10 at *
    repeat walk_at "s"
    refine outE_must S10 gN10 (fun i2 => ?_) (fun i2 => by
      rw [if_pos (by rw [i2, Bool.and_false])] at k
      exact k)
    rw [if_neg (by rw [i1, i2]; decide)] at k
    have rr := crn_of RO
    have hd := rdir_of RO
    have sb := inside_bd rr s1 i1
    have eb := inside_bd rr e1 i2
    have pbd := paths_bd rr hd s1 i1 e1 i2 m4
    have rn : (roomT told (tellN told)).n = tellN told := roomT_n
    generalize roomT told (tellN told) = r at *
    have dw := d1
    unfold iRate at dw
    simp only [Bool.and_eq_true, decide_eq_true_eq] at dw
    have e100 : (2 : Nat) ^ 100 = 1267650600228229401496703205376 := by decide
    have pl : (iPaths r s e most).length ≤ 100000 := by
      have h := levels_len (r := r) (s := s) (e := e) (b := 20000) (most + 1) fun j hj => by
        refine Nat.le_trans (rows_len j) (Nat.le_trans (Nat.pow_le_pow_right (show 0 < r.n + 2 by omega) (show j ≤ most by omega)) ?_)
        rw [rn]
        exact fw
      have h2 : (most + 1) * 20000 ≤ 5 * 20000 := Nat.mul_le_mul_right _ (by omega)
      exact Nat.le_trans h h2
    have b16 : ∀ z : Int, 0 ≤ z → z ≤ 4095 → Bd 16 z := fun z h1 h2 => bd_of (by omega) (by omega)
    repeat walk_at "s"
    refine ⟨x, pa, pb, r, s, e, most, rfl, R10, gs10, ge10, s1, ⟨b16 _ sb.1.1 sb.1.2, b16 _ sb.2.1.1 sb.2.1.2, b16 _ sb.2.2.1 sb.2.2.2, by rw [s1]; exact ⟨by decide⟩⟩, e1, ⟨b16 _ eb.1.1 eb.1.2, b16 _ eb.2.1.1 eb.2.1.2, b16 _ eb.2.2.1 eb.2.2.2, by rw [e1]; exact ⟨by decide⟩⟩, hd, m4, by rw [rn]; exact fw, fun H11 F as S1011 gF PI => ?_⟩
    have S11 := S10.trans S1011
    have R11 := R10.same S1011
    clear R10 gs10 ge10
    have ep : iPairs r s e most rate speed = (iPaths r s e most).map fun p => (p, iDelay p.square.toNat rate speed) := rfl
    generalize iPairs r s e most rate speed = ps at *
    generalize iPaths r s e most = pp at *
    refine ⟨F, rfl, ⟨_, SqL.of gF⟩, fun D hD => ?_⟩
    refine lcList (R := fun z y H => ∃ (t a dx lw : Addr) (sq : Int), y = .ref t ∧ z = .ref a ∧ H a = some (.ins (He.ga K "Path") dx (pathF sq lw)) ∧ SqT K H t [.ref a, .int (iDelay sq.toNat rate speed : Nat)]) (p := fun _ => true) (fun z y H H' e h => ?_) (fun z y H D l l' e h => ?_) hD (SqL.of gF) (by rw [List.length_map, PI.len]; omega) (fun i z H12 G12 F12 hx S12 _ h1 => ?_) (fun H12 acc S1112 gD pr => ?_)
    · obtain ⟨t, a, dx, lw, sq, h1, h2, h3, h4⟩ := h
      exact ⟨t, a, dx, lw, sq, h1, h2, e _ _ h3, e.tup h4⟩
    · obtain ⟨t, a, dx, lw, sq, h1, h2, h3, h4⟩ := h
      exact ⟨t, a, dx, lw, sq, h1, h2, (upd_ne fun q => by rw [q, e] at h3; cases h3).trans h3, tup_put e h4⟩
    · rw [List.getElem?_map] at hx
      cases ea : as[i]? with
      | none => rw [ea] at hx; cases hx
      | some a =>
      rw [ea] at hx
      cases hx
      have hi : i < pp.length := by rw [← PI.len]; exact (List.getElem?_eq_some_iff.mp ea).1
      have eq : pp[i]? = some pp[i] := List.getElem?_eq_getElem hi
      obtain ⟨dx, lw, g1, _, _⟩ := PI.at_ i a _ ea eq
      obtain ⟨q0, q33, _, _⟩ := pbd _ (List.mem_of_getElem? eq)
      have g1 := S12 _ _ g1
      generalize pp[i] = p at *
      refine ⟨rfl, ?_⟩
      refine r_yes ?_
      refine r_itT rfl ?_
      repeat walk_at "s"
      refine ⟨_, _, _, _, _, rfl, g1, T.k_Path, T.a_Path_square, lk_here, ?_⟩
      repeat walk_at "s"
      refine ⟨p.square.toNat, rate, speed, by rw [Int.toNat_of_nonneg q0]; rfl, by omega, bdN (by omega), bdN (by omega), bdN (by omega), ?_⟩
      repeat walk_at "s"
      refine ⟨sz2, fun t ht => ?_⟩
      exact h1 rfl _ _ (same_new ht) ⟨t, a, dx, lw, p.square, rfl, rfl, (same_new ht) _ _ g1, SqT.of upd_same⟩
    · have S12 := S11.trans S1112
      have R12 := R11.same S1112
      clear R11
      rw [List.filter_eq_self.mpr fun _ _ => rfl] at pr
      have al : acc.length = pp.length := by rw [← Paired.length pr, List.length_map, PI.len]
      have eacc : acc = (acc.map backA).map V.ref := refs_back fun y hy => by
        obtain ⟨_, t, _, _, _, _, h1, _⟩ := paired_to pr y hy
        rw [h1]
        rfl
      have plen : ps.length = pp.length := by rw [ep, List.length_map]
      have PA : PairsAt K H12 D ps := by
        refine ⟨acc.map backA, by rw [← eacc]; exact gD, by rw [List.length_map, al, plen], fun j t p h1 h2 => ?_⟩
        rw [ep, List.getElem?_map] at h2
        cases eq : pp[j]? with
        | none => rw [eq] at h2; cases h2
        | some q =>
        rw [eq] at h2
        cases h2
        have hj : j < as.length := by rw [PI.len]; exact (List.getElem?_eq_some_iff.mp eq).1
        have ea : as[j]? = some as[j] := List.getElem?_eq_getElem hj
        obtain ⟨dx2, lw2, k1, _, k2⟩ := PI.at_ j _ _ ea eq
        obtain ⟨y, hy, t', a', dx, lw, sq, h3, h4, h5, h6⟩ := paired_at pr j (.ref as[j]) (by rw [List.getElem?_map, ea]; rfl)
        rw [List.getElem?_map, hy] at h1
        subst h3
        cases h1
        cases h4
        have k1 := S1112 _ _ k1
        rw [h5] at k1
        have sqe : sq = q.square := by
          have := (HO.ins.inj (Option.some.inj k1)).2.2
          unfold pathF at this
          exact V.int.inj (Prod.mk.inj (List.cons.inj this).1).2
        have lwe : lw = lw2 := by
          have := (HO.ins.inj (Option.some.inj k1)).2.2
          unfold pathF at this
          exact V.ref.inj (Prod.mk.inj (List.cons.inj (List.cons.inj this).2).1).2
        rw [sqe] at h5 h6
        exact ⟨as[j], dx, lw, h6, h5, by rw [lwe]; exact S1112 _ _ k2⟩
      clear PI pr gF S1011
      refine r_nameS (σ' := [some (.ref ln), some (.ref lr), some (.int (most : Int)), some (.int (band : Int)), some (.int (rate : Int)), some (.int (speed : Int)), some (.ref x), some (.int (iBook book)), some (.ref pa), some (.ref pb), some (.ref D), none, none, none]) (by with_unfolding_all rfl) ?_
      repeat walk_at "s"
      refine ⟨D, rfl, ⟨_, SqL.of gD⟩, fun D2 hD2 => ?_⟩
      refine lcIdx (f := fun j => (ps[j]?).elim V.non fun p => V.bl (decide ((p.2 : Int) ≤ 262143))) hD2 (SqL.of gD) (by omega) (fun i z H13 G13 F13 hx S13 h1 => ?_) (fun H13 S1213 gD2 => ?_)
      · obtain ⟨⟨ts, t1, t2, t3⟩⟩ := PA
        rw [gD] at t1
        have et : acc = ts.map V.ref := HO.lst.inj (Option.some.inj t1)
        rw [et, List.getElem?_map] at hx
        cases e1 : ts[i]? with
        | none => rw [e1] at hx; cases hx
        | some t =>
        rw [e1] at hx
        cases hx
        have hi : i < ps.length := by rw [← t2]; exact (List.getElem?_eq_some_iff.mp e1).1
        have eq : ps[i]? = some ps[i] := List.getElem?_eq_getElem hi
        obtain ⟨pa', dx, lw, k1, k2, k3⟩ := t3 i t _ e1 eq
        rw [eq] at h1
        refine r_gtup (S13.tup k1) rfl ?_
        repeat walk_at "s"
        refine ⟨rfl, ?_⟩
        refine r_yes ?_
        refine r_itT rfl ?_
        repeat walk_at "s"
        exact h1 _ (Same.refl _)
      · have S13 := S12.trans S1213
        have R13 := R12.same S1213
        have PA13 := PA.same S1213
        clear R12 PA
        rw [al, ← plen, range_get ps (fun p => V.bl (decide ((p.2 : Int) ≤ 262143))) V.non] at gD2
        clear S1112 S1213
        have gD3 : H13 D2 = some (.lst ((ps.map fun p => decide ((p.2 : Int) ≤ 262143)).map V.bl)) := by rw [gD2, List.map_map]; rfl
        repeat walk_at "s"
        refine ⟨D2, _, rfl, SqL.of gD3, ?_⟩
        have eall : (ps.map fun p => decide ((p.2 : Int) ≤ 262143)).all _root_.id = ps.all fun p => decide (p.2 ≤ 262143) := by
          rw [List.all_map]
          congr 1
          funext p
          show decide ((p.2 : Int) ≤ 262143) = decide (p.2 ≤ 262143)
          rw [decide_eq_decide]
          omega
        rw [eall]
        repeat walk_at "s"
        refine ⟨szA, fun N14 hN14 => ?_⟩
        have S1314 := same_new (o := .lst [V.int (-4)]) hN14
        have S14 := S13.trans S1314
        have gN14 : upd H13 N14 (.lst [V.int (-4)]) N14 = some (.lst ([(-4 : Int)].map V.int)) := upd_same
        have R14 := R13.same S1314
        have PA14 := PA13.same S1314
        clear R13 PA13
        generalize upd H13 N14 (.lst [V.int (-4)]) = H14 at *
        repeat walk_at "s"
        refine outE_must S14 gN14 (fun c4 => ?_) (fun c4 => by rw [if_pos c4] at k; exact k)
        rw [if_neg (by rw [c4]; decide)] at k
        repeat walk_at "s"
        refine r_ixL (S14.lst hr') rfl ?_
        repeat walk_at "s"
        have eb2 : book.map V.int = natsV (book.map Int.toNat) := by
          unfold natsV
          rw [List.map_map]
          refine List.map_congr_left fun y hy => ?_
          show V.int y = V.int ((y.toNat : Nat) : Int)
          rw [Int.toNat_of_nonneg (bn y hy)]
        have stk := stuff_lt RO
        have gle : ∀ p ∈ ps, ((gainP r (book.map Int.toNat) band p).2 : Int) ≤ Eh.LOUD := fun p _ => by
          unfold gainP
          exact gain_bd bfew
        have hb14 : SqL K H14 rb (natsV (book.map Int.toNat)) := by rw [← eb2]; exact S14.lst hb
        have pl2 : ps.length ≤ 200000 := by omega
        refine ⟨x, rb, D, r, book.map Int.toNat, band, ps, rfl, R14, hb14, PA14, pl2, fun p hp => ?_, gle, fun H15 lt S1415 TA => ?_⟩
        · rw [ep] at hp
          obtain ⟨q, hq, rfl⟩ := List.mem_map.mp hp
          obtain ⟨q0, q33, q4, qw⟩ := pbd q hq
          refine ⟨q0, b36, b3, bfew, fun w _ => by have := stk w; omega, q4, qw, ?_⟩
          show q.square.toNat < 2 ^ 33
          have : (2 : Nat) ^ 33 = 8589934592 := by decide
          omega
        have S15 := S14.trans S1415
        have TA : TapsAt K H15 lt (iTaps2 r (book.map Int.toNat) band ps) := TA
        have tlen : (iTaps2 r (book.map Int.toNat) band ps).length = (iTaps2 r (book.map Int.toNat) band ps).length := rfl
        generalize iTaps2 r (book.map Int.toNat) band ps = taps at *
        clear R14 PA14 tlen
        obtain ⟨ts, g15, tl15, _⟩ := id TA.ex
        repeat walk_at "s"
        refine ⟨lt, _, rfl, .inl (SqL.of g15), ?_⟩
        rw [List.length_map, tl15]
        repeat walk_at "s"
        refine ⟨szA, fun N16 hN16 => ?_⟩
        have S1516 := same_new (o := .lst [V.int (-8)]) hN16
        have S16 := S15.trans S1516
        have gN16 : upd H15 N16 (.lst [V.int (-8)]) N16 = some (.lst ([(-8 : Int)].map V.int)) := upd_same
        have TA16 := TA.same S1516
        clear TA
        generalize upd H15 N16 (.lst [V.int (-8)]) = H16 at *
        repeat walk_at "s"
        refine outE_must S16 gN16 (fun c5 => ?_) (fun c5 => by
          have c5 := of_decide_eq_false c5
          rw [if_pos (by omega)] at k
          exact k)
        have c5 := of_decide_eq_true c5
        rw [if_neg (by omega)] at k
        repeat walk_at "s"
        refine ⟨szA, fun N17 hN17 => ?_⟩
        have S1617 := same_new (o := .lst [V.int 0]) hN17
        have S17 := S16.trans S1617
        have gN17 : upd H16 N17 (.lst [V.int 0]) N17 = some (.lst [V.int 0]) := upd_same
        have TA17 := TA16.same S1617
        generalize upd H16 N17 (.lst [V.int 0]) = H17 at *
        repeat walk_at "s"
        refine ⟨lt, taps, rfl, TA17, by omega, fun H18 D4 S1718 gD4 nD4 => ?_⟩
        have fl : (flatT taps).length ≤ 20000 := by
          rw [flatT_len]
          omega
        refine ⟨N17, D4, _, _, rfl, rfl, S1718 _ _ gN17, gD4, Nat.le_trans (show 1 + ((flatT taps).map V.int).length ≤ 1000000 by rw [List.length_map]; omega) (by decide), fun D5 hD5 => ?_⟩
        have S18 := S17.trans S1718
        refine k _ D5 (S18.trans (same_new hD5)) upd_same (none_of S18 hD5)
end
end Rt
set_option Elab.async false
set_option linter.all false
set_option maxRecDepth 100000
set_option maxHeartbeats 4000000
namespace Rt
open PySem PySem.Spec PyProof.Rows L2
open C8 (Cal Met Mak pe_c pe_mk pe_mt pe_mt0 pe_gc)
local macro_rules | `(tactic| walk_at "bd") => `(tactic| first
  | assumption | exact Bd.lit (by decide) | exact Bd.sub (by walk_at "bd") (by walk_at "bd") | exact Bd.add (by walk_at "bd") (by walk_at "bd") | exact Bd.mul (by walk_at "bd") (by walk_at "bd") | exact Bd.neg (by walk_at "bd") | exact Bd.lit (by decide))
local macro_rules | `(tactic| walk_at "r") => `(tactic| with_reducible first
  | refine r_seq ?_ | refine r_ret ?_ | refine r_asg ?_ | refine r_drop ?_ | refine r_op ?_ | refine r_un ?_ | refine r_c ?_ | refine r_cons ?_ | refine r_nil ?_ | refine r_i0 ?_ | refine r_U ?_ | refine r_name ?_ | refine r_if ?_ | refine r_test ?_ | refine r_tB ?_ | refine r_bl ?_
  | refine r_call ?_ | refine r_meth ?_ | refine r_fld ?_ | refine r_tup ?_ | refine r_lst ?_ | refine r_cb ?_ | refine r_andV ?_ | refine r_orV ?_ | refine r_notV ?_ | refine r_and ?_ | refine r_or ?_ | refine r_not ?_ | refine r_eqI ?_ | refine r_neI ?_ | refine r_eqB ?_ | refine r_neB ?_
  | refine r_next ?_ | refine r_par ?_ | refine r_lc ?_ | refine r_yes ?_ | refine r_iList ?_ | refine r_iRng1 ?_ | refine r_lstRg ?_ | refine r_rg1 ?_ | refine r_gcons ?_ | refine r_gnil ?_ | refine r_var (by with_unfolding_all rfl) ?_)
local macro_rules | `(tactic| walk_at "s") => `(tactic| first
  | walk_at "r" | (with_reducible refine r_itT rfl ?_) | (with_reducible refine r_itF rfl ?_) | (with_reducible refine r_ixT (by assumption) (by with_unfolding_all rfl) ?_) | ((with_reducible refine r_iM ?_ ?_); exact bd_mul (by walk_at "bd") (by walk_at "bd") (by decide)) | (with_reducible refine r_gtup (by assumption) (by with_unfolding_all rfl) ?_) | refine RoomAt.meth (by assumption) ?_)
local macro_rules | `(tactic| walk_at "d") => `(tactic| try dsimp only [cxOf, Cx.nox, Cx.wish])

local macro_rules | `(tactic| walk_at "s") => `(tactic| with_reducible first
  | refine r_sl ?_ | refine r_po0 ?_ | refine r_po1 ?_ | refine r_for ?_ | refine r_bm ?_ | refine r_make ?_ | refine r_sfld ?_ | refine r_inl ?_)

local macro_rules | `(tactic| walk_at "s") => `(tactic| with_reducible first
  | refine r_callS ?_ | refine r_methE ?_ | refine r_iRng3 ?_ | refine r_mkO ?_)

def deskF (ln : Addr) : List (Str × V) := [("line", .ref ln)]
/-- the desk in the heap -/
structure DeskAt (K : PySem.W.Frag) (H : Hp) (dk ln lt ls : Addr) (taps : List (Nat × Int)) (s : List Int) : Prop where
  ex : ∃ dx dxl, H dk = some (.ins (He.ga K "Desk") dx (deskF ln)) ∧ H ln = some (.ins (He.ga K "Line") dxl (lineF lt ls)) ∧ TapsAt K H lt taps ∧ H ls = some (.lst (s.map V.int)) ∧ lt ≠ ls
theorem DeskAt.same {K : PySem.W.Frag} {H H' : Hp} {dk ln lt ls : Addr} {taps : List (Nat × Int)} {s : List Int} (h : DeskAt K H dk ln lt ls taps s) (e : Same H H') : DeskAt K H' dk ln lt ls taps s := by
  obtain ⟨dx, dxl, h1, h2, h3, h4, h5⟩ := h
  exact ⟨dx, dxl, e _ _ h1, e _ _ h2, h3.same e, e _ _ h4, h5⟩
theorem DeskAt.line {K : PySem.W.Frag} {H : Hp} {dk ln lt ls : Addr} {taps : List (Nat × Int)} {s : List Int} (h : DeskAt K H dk ln lt ls taps s) : LineAt K H ln taps s := by
  obtain ⟨dx, dxl, h1, h2, h3, h4, h5⟩ := h
  exact ⟨dxl, lt, ls, h2, h3, h4, h5⟩
theorem DeskAt.meth {K : PySem.W.Frag} {H : Hp} {dk ln lt ls : Addr} {taps : List (Nat × Int)} {s : List Int} {m : Str} {R : Prop} (hR : DeskAt K H dk ln lt ls taps s) (h : R) (n1 : (m == ("line" : Str)) = false := by decide +kernel) :
    ∃ a' dx fs, V.ref dk = .ref a' ∧ H a' = some (.ins (He.ga K "Desk") dx fs) ∧ fs.lookup m = none ∧ R := by
  obtain ⟨dx, dxl, h1, _⟩ := hR
  exact ⟨dk, dx, _, rfl, h1, (lk_past n1).trans lk_no, h⟩
/-- what a call leaves of the desk: the rest of the heap is kept, what is new was not there -/
def OutD (K : PySem.W.Frag) (H : Hp) (dk ln lt ls : Addr) (H' : Hp) (taps : List (Nat × Int)) (s : List Int) : Prop :=
  (∀ b u, b ≠ dk → b ≠ ln → b ≠ ls → H b = some u → H' b = some u) ∧ ∃ ln' lt' ls', DeskAt K H' dk ln' lt' ls' taps s ∧ (ln' = ln ∨ H ln' = none) ∧ (lt' = lt ∨ H lt' = none) ∧ (ls' = ls ∨ H ls' = none)
theorem OutD.of_same {K : PySem.W.Frag} {H H' : Hp} {dk ln lt ls : Addr} {taps : List (Nat × Int)} {s : List Int} (h : DeskAt K H dk ln lt ls taps s) (e : Same H H') : OutD K H dk ln lt ls H' taps s :=
  ⟨fun b u _ _ _ q => e b u q, ln, lt, ls, h.same e, .inl rfl, .inl rfl, .inl rfl⟩
theorem OutD.then_ {K : PySem.W.Frag} {H H' H2 : Hp} {dk ln lt ls : Addr} {taps : List (Nat × Int)} {s : List Int} (h : OutD K H dk ln lt ls H' taps s) (e : Same H' H2) : OutD K H dk ln lt ls H2 taps s := by
  obtain ⟨h1, ln', lt', ls', h2, h3, h4⟩ := h
  exact ⟨fun b u n1 n2 n3 q => e b u (h1 b u n1 n2 n3 q), ln', lt', ls', h2.same e, h3, h4⟩
theorem OutD.after {K : PySem.W.Frag} {H H1 H' : Hp} {dk ln lt ls : Addr} {taps : List (Nat × Int)} {s : List Int} (e : Same H H1) (h : OutD K H1 dk ln lt ls H' taps s) : OutD K H dk ln lt ls H' taps s := by
  obtain ⟨h1, ln', lt', ls', h2, h3, h4, h5⟩ := h
  exact ⟨fun b u n1 n2 n3 q => h1 b u n1 n2 n3 (e b u q), ln', lt', ls', h2, h3.imp_right (none_of e), h4.imp_right (none_of e), h5.imp_right (none_of e)⟩
theorem TapsAt.insP {K : PySem.W.Frag} {H : Hp} {x C dx lt : Addr} {fs : List (Str × V)} {o : HO} {taps : List (Nat × Int)} (hx : H x = some (.ins C dx fs)) (h : TapsAt K H lt taps) : TapsAt K (upd H x o) lt taps := by
  obtain ⟨ts, h1, h2, h3⟩ := h
  exact ⟨ts, (upd_ne fun q => by rw [q, hx] at h1; cases h1).trans h1, h2, fun j t p a b => tup_insP hx (h3 j t p a b)⟩
theorem line_new {K : PySem.W.Frag} {H : Hp} {x dx : Addr} {Q : VK} {E : XK} (h1 : H x = none) (h2 : H dx = none) (ne : dx ≠ x)
    (k : ∀ (H2 : Hp) (dxl lt ls : Addr), Same H H2 → H2 x = some (.ins (He.ga K "Line") dxl (lineF lt ls)) → TapsAt K H2 lt [] → H2 ls = some (.lst (([] : List Int).map V.int)) → lt ≠ ls → H lt = none → H ls = none → Q .non H2) :
    spLineI K [.ref x] (upd (upd H dx (.own x)) x (.ins (He.ga K "Line") dx [])) Q E := by
  have up : ∀ b, b ≠ x → b ≠ dx → upd (upd H dx (.own x)) x (.ins (He.ga K "Line") dx []) b = H b := fun b q1 q2 => by rw [upd_ne q1, upd_ne q2]
  refine ⟨x, dx, rfl, upd_same, fun H2 kp fr la => ?_⟩
  obtain ⟨dxl, lt, ls, g1, g2, g3, g4⟩ := la
  have fr := fr dxl lt ls g1
  have back : ∀ a, upd (upd H dx (.own x)) x (.ins (He.ga K "Line") dx []) a = none → H a = none := fun a z => by
    have bx : a ≠ x := fun q => by rw [q, upd_same] at z; cases z
    have bd : a ≠ dx := fun q => by rw [q, upd_ne ne, upd_same] at z; cases z
    rw [up a bx bd] at z
    exact z
  refine k H2 dxl lt ls (fun b u e => ?_) g1 g2 g3 g4 (back _ fr.1) (back _ fr.2)
  have bx : b ≠ x := fun q => by rw [q, h1] at e; cases e
  have bd : b ≠ dx := fun q => by rw [q, h2] at e; cases e
  exact kp b u bx ((up b bx bd).trans e)
def rowOk (row : List Int) : Bool := row.all fun x => decide (-2147483648 ≤ x) && decide (x ≤ 2147483647)
section
variable {P : Program} {w : World} {K : PySem.W.Frag} {mg : Str → Option Value} {base : Heap}
def spDeskI (K : PySem.W.Frag) : Sp := fun vs H Q _ => ∃ (x dx : Addr), vs = [.ref x] ∧ H x = some (.ins (He.ga K "Desk") dx []) ∧ ∀ H' ln lt ls, (∀ b u, b ≠ x → H b = some u → H' b = some u) → DeskAt K H' x ln lt ls [] [] → H ln = none → H lt = none → H ls = none → Q .non H'
theorem ok_Desk_init (T : Tx K mg base) : Mak P w K mg base 3 "Desk" (He.ga K "Desk") (spDeskI K) [] := by
  refine mkK T.f_Desk_init T.m_Desk T.g_Desk sc_Desk_init (fun _ _ _ _ _ _ us hl => match us, hl with | [_], _ => rfl) (fun vs H Q E h => ?_) (fun f cdv A outer s H vs Q E hr h => ⟨_, (pss_one (ps_fld (pv 0) (pe_mk0 (ok_Line_init T) hr (by decide) rfl) rfl)), ?_⟩)
  · obtain ⟨x, dx, rfl, _⟩ := h
    rfl
  · obtain ⟨x, dx, rfl, hx, k⟩ := h
    walk_at "d"
    repeat walk_at "s"
    refine fun y dy hy hdy ne => line_new hy hdy ne fun H2 dxl lt ls S g1 g2 g3 g4 nlt nls => ⟨rfl, ?_⟩
    have yx : y ≠ x := fun q => by rw [q, hx] at hy; cases hy
    have gx := S _ _ hx
    repeat walk_at "s"
    refine ⟨x, _, _, _, rfl, gx, T.k_Desk, T.a_Desk_line, by decide, ?_⟩
    refine k _ y lt ls (fun b u nb e => (upd_ne nb).trans (S _ _ e)) ⟨dx, dxl, upd_same, (upd_ne yx).trans g1, g2.insP gx, (upd_ne fun q => by rw [q, gx] at g3; cases g3).trans g3, g4⟩ hy nlt nls
def spBegin (K : PySem.W.Frag) : Sp := fun vs H Q _ => ∃ (dk ln lt ls : Addr) (taps : List (Nat × Int)) (s : List Int), vs = [.ref dk] ∧ DeskAt K H dk ln lt ls taps s ∧ ∀ H' D, OutD K H dk ln lt ls H' [] [] → H' D = some (.lst [.int 0]) → H D = none → Q (.ref D) H'
theorem ok_Desk_begin (T : Tx K mg base) : Met P w K mg base 3 (He.ga K "Desk") "begin" (spBegin K) [] := by
  refine mkM T.f_Desk_begin T.k_Desk T.t_Desk_begin sc_Desk_begin (fun _ _ _ _ _ _ us hl => match us, hl with | [_], _ => rfl) (fun vs H Q E h => ?_) (fun f cdv A outer s H vs Q E hr h => ⟨_, (pss_cons (ps_fld (pv 0) (pe_mk0 (ok_Line_init T) hr (by decide) rfl) rfl)
      (pss_one (ps_ret (pe_lst (pa_cons pe_int pa_nil))))), ?_⟩)
  · obtain ⟨dk, ln, lt, ls, taps, s, rfl, _⟩ := h
    rfl
  · obtain ⟨dk, ln, lt, ls, taps, s', rfl, hD, k⟩ := h
    walk_at "d"
    repeat walk_at "s"
    obtain ⟨dx0, dxl0, hd1, hd2, hd3, hd4, hd5⟩ := hD
    refine fun y dy hy hdy ne => line_new hy hdy ne fun H2 dxl lt2 ls2 S g1 g2 g3 g4 nlt nls => ⟨rfl, ?_⟩
    have yx : y ≠ dk := fun q => by rw [q, hd1] at hy; cases hy
    have gx := S _ _ hd1
    repeat walk_at "s"
    refine ⟨dk, _, _, _, rfl, gx, T.k_Desk, T.a_Desk_line, (by show 1 < 1000; decide), ?_⟩
    have e : putF "line" (.ref y) (deskF ln) = deskF y := put_here
    rw [e]
    have O : OutD K H dk ln lt ls (upd H2 dk (.ins (He.ga K "Desk") dx0 (deskF y))) [] [] := ⟨fun b u n1 _ _ q => (upd_ne n1).trans (S _ _ q), y, lt2, ls2, ⟨dx0, dxl, upd_same, (upd_ne yx).trans g1, g2.insP gx, (upd_ne fun q => by rw [q, gx] at g3; cases g3).trans g3, g4⟩, .inr hy, .inr nlt, .inr nls⟩
    have nw : ∀ b, upd H2 dk (.ins (He.ga K "Desk") dx0 (deskF y)) b = none → H b = none := fun b q => by
      have nb : b ≠ dk := fun z => by rw [z, upd_same] at q; cases q
      rw [upd_ne nb] at q
      exact none_of S q
    generalize upd H2 dk (.ins (He.ga K "Desk") dx0 (deskF y)) = H3 at *
    repeat walk_at "s"
    refine ⟨szA, fun D hD => ?_⟩
    exact k _ D (O.then_ (same_new hD)) upd_same (nw _ hD)
def spPut (K : PySem.W.Frag) : Sp := fun vs H Q E => ∃ (dk ln lt ls l : Addr) (taps : List (Nat × Int)) (s row : List Int), vs = [.ref dk, .ref l] ∧ DeskAt K H dk ln lt ls taps s ∧ SqL K H l (row.map V.int) ∧ row.length ≤ 100000 ∧
  (∀ t, iRead row = .ok t → ∀ H' D, OutD K H dk ln lt ls H' t s → H' D = some (.lst [.int 0]) → H D = none → Q (.ref D) H') ∧ ∀ l', iRead row = .error l' → OutE K Q E H (.error l')
theorem ok_Desk_put (T : Tx K mg base) : MetE (L2.CX P w) P w K mg base 5 (He.ga K "Desk") "put" (spPut K) := by
  refine mkME T.f_Desk_put T.k_Desk T.t_Desk_put sc_Desk_put (fun _ _ _ _ _ _ us hl => match us, hl with | [_, _], _ => rfl) (fun vs H Q E h => ?_) (fun f cdv A outer s H vs Q E hr h => ⟨_, (pss_cons (ps_fld (pe_fld (pv 0) rfl) (pe_cE (ok_read_taps T) hr (by decide) rfl (fun σ => L2.passAt (L2.takes_of rfl rfl rfl rfl) σ) (pa_cons (pv 1) pa_nil)) rfl)
      (pss_one (ps_ret (pe_lst (pa_cons pe_int pa_nil))))), ?_⟩)
  · obtain ⟨dk, ln, lt, ls, l, taps, s, row, rfl, _⟩ := h
    rfl
  · obtain ⟨dk, ln, lt, ls, l, taps, s', row, rfl, hD, hl, big, k0, ke⟩ := h
    obtain ⟨dx0, dxl0, hd1, hd2, hd3, hd4, hd5⟩ := hD
    walk_at "d"
    repeat walk_at "s"
    refine ⟨l, row, rfl, hl, big, fun t it H2 lt2 S g2 nlt => ?_, fun l' il => outE_err (Same.refl _) (ke l' il)⟩
    have e1 := S _ _ hd1
    have e2 := S _ _ hd2
    have e4 := S _ _ hd4
    repeat walk_at "s"
    refine ⟨dk, _, _, _, _, rfl, e1, T.k_Desk, T.a_Desk_line, lk_here, ?_⟩
    repeat walk_at "s"
    refine ⟨ln, _, _, _, rfl, e2, T.k_Line, T.a_Line_taps, (by show 2 < 1000; decide), ?_⟩
    have e : putF "taps" (.ref lt2) (lineF lt ls) = lineF lt2 ls := put_here
    rw [e]
    have nd : dk ≠ ln := fun q => by
      have z := hd1
      rw [q, hd2] at z
      have := (HO.ins.inj (Option.some.inj z)).2.2
      unfold lineF deskF at this
      exact absurd (congrArg List.length this) (by show ¬ 2 = 1; decide)
    have O : OutD K H dk ln lt ls (upd H2 ln (.ins (He.ga K "Line") dxl0 (lineF lt2 ls))) t s' := ⟨fun b u _ n1 _ q => (upd_ne n1).trans (S _ _ q), ln, lt2, ls, ⟨dx0, dxl0, (upd_ne nd).trans e1, upd_same, g2.insP e2, (upd_ne fun q => by rw [q, e2] at e4; cases e4).trans e4, fun q => by rw [q, hd4] at nlt; cases nlt⟩, .inl rfl, .inr nlt, .inl rfl⟩
    have nw : ∀ b, upd H2 ln (.ins (He.ga K "Line") dxl0 (lineF lt2 ls)) b = none → H b = none := fun b q => by
      have nb : b ≠ ln := fun z => by rw [z, upd_same] at q; cases q
      rw [upd_ne nb] at q
      exact none_of S q
    generalize upd H2 ln (.ins (He.ga K "Line") dxl0 (lineF lt2 ls)) = H3 at *
    repeat walk_at "s"
    refine ⟨szA, fun D hD => ?_⟩
    exact k0 t it _ D (O.then_ (same_new hD)) upd_same (nw _ hD)
def spPastD (K : PySem.W.Frag) : Sp := fun vs H Q E => ∃ (dk ln lt ls : Addr) (taps : List (Nat × Int)) (s : List Int) (back : Nat), vs = [.ref dk, .int (back : Int)] ∧ DeskAt K H dk ln lt ls taps s ∧
  OutE K Q E H (if 262143 < back then .error [-1] else .ok [0, iPast s (back : Int)])
theorem ok_Desk_past (T : Tx K mg base) : MetE (L2.CX P w) P w K mg base 4 (He.ga K "Desk") "past" (spPastD K) := by
  refine mkME T.f_Desk_past T.k_Desk T.t_Desk_past sc_Desk_past (fun _ _ _ _ _ _ us hl => match us, hl with | [_, _], _ => rfl) (fun vs H Q E h => ?_) (fun f cdv A outer s H vs Q E hr h => ⟨_, (pss_cons (ps_expr (pe_cE (ok_must_taps T) hr (by decide) rfl (fun σ => L2.passAt (L2.takes_of rfl rfl rfl rfl) σ) (pa_cons (pe_cmpR op_le (pv 1) (pe_gc rfl T.c_MOST_DELAY) (nomark _)) (pa_cons (pe_lst (pa_cons (pe_un un_neg pe_int) pa_nil)) pa_nil))))
      (pss_one (ps_ret (pe_lst (pa_cons pe_int (pa_cons (pe_mt (ok_Line_past T) hr (by decide) (pe_fld (pv 0) rfl) (pa_cons (pv 1) pa_nil)) pa_nil)))))), ?_⟩)
  · obtain ⟨dk, ln, lt, ls, taps, s, back, rfl, _⟩ := h
    rfl
  · obtain ⟨dk, ln, lt, ls, taps, s', back, rfl, hD, k⟩ := h
    walk_at "d"
    repeat walk_at "s"
    refine ⟨szA, fun N hN => ?_⟩
    have S1 := same_new (o := .lst [V.int (-1)]) hN
    have gN : upd H N (.lst [V.int (-1)]) N = some (.lst ([(-1 : Int)].map V.int)) := upd_same
    generalize upd H N (.lst [V.int (-1)]) = H1 at *
    repeat walk_at "s"
    refine outE_must S1 gN (fun c => ?_) (fun c => by
      have := of_decide_eq_false c
      rw [if_pos (by omega)] at k
      exact k)
    have c := of_decide_eq_true c
    rw [if_neg (by omega)] at k
    have hD1 := hD.same S1
    have hL := hD1.line
    obtain ⟨dx0, dxl0, hd1, hd2, hd3, hd4, hd5⟩ := hD1
    repeat walk_at "s"
    refine ⟨dk, _, _, _, _, rfl, hd1, T.k_Desk, T.a_Desk_line, lk_here, ?_⟩
    repeat walk_at "s"
    refine LineAt.meth hL ?_
    repeat walk_at "s"
    refine ⟨ln, taps, s', _, rfl, hL, ?_⟩
    repeat walk_at "s"
    refine ⟨sz2, fun D hD => ?_⟩
    exact k _ D (S1.trans (same_new hD)) upd_same (none_of S1 hD)
def spRunD (K : PySem.W.Frag) : Sp := fun vs H Q E => ∃ (dk ln lt ls l : Addr) (taps : List (Nat × Int)) (s row : List Int), vs = [.ref dk, .ref l] ∧ DeskAt K H dk ln lt ls taps s ∧ SqL K H l (row.map V.int) ∧ l ≠ ls ∧ row.length ≤ 1000 ∧ (rowOk row = true → LineOk taps (s ++ row)) ∧
  (rowOk row = true → ∀ H' D, OutD K H dk ln lt ls H' taps (s ++ row) → H' D = some (.lst ((0 :: iRun taps s row).map V.int)) → H D = none → Q (.ref D) H') ∧ (rowOk row = false → OutE K Q E H (.error [-1]))
theorem ok_Desk_run (T : Tx K mg base) : MetE (L2.CX P w) P w K mg base 4 (He.ga K "Desk") "run" (spRunD K) := by
  refine mkME T.f_Desk_run T.k_Desk T.t_Desk_run sc_Desk_run (fun _ _ _ _ _ _ us hl => match us, hl with | [_, _], _ => rfl) (fun vs H Q E h => ?_) (fun f cdv A outer s H vs Q E hr h => ⟨_, (pss_cons (ps_expr (pe_cE (ok_must_taps T) hr (by decide) rfl (fun σ => L2.passAt (L2.takes_of rfl rfl rfl rfl) σ) (pa_cons (pe_callB (cr_all rfl) (by rfl) T.n_all (by decide +kernel) (pa_cons (pe_lc (own := [("sample", 2)]) rfl sc_Desk_run.nd (pi_list (pv 1)) (blkOk_by (own := [("sample", 2)]) (N := ["self", "row", "sample"]) (sc := defScope s_Desk_run) (by decide +kernel)) (fun _ _ _ _ _ => (pg_name (i := 2) sc_Desk_run.nd rfl (Or.inl rfl))) (fun _ _ _ _ _ => pts_nil) (fun _ _ _ _ _ => (pe_and (pe_cmpR op_ge (pv 2) (pe_gc rfl T.c_LEAST) (nomark _)) (pe_one (pe_cmpR op_le (pv 2) (pe_gc rfl T.c_GREATEST) (nomark _)))))) pa_nil)) (pa_cons (pe_lst (pa_cons (pe_un un_neg pe_int) pa_nil)) pa_nil))))
      (pss_one (ps_ret (pe_op op_cat (pe_lst (pa_cons pe_int pa_nil)) (pe_mt (ok_Line_run T) hr (by decide) (pe_fld (pv 0) rfl) (pa_cons (pv 1) pa_nil)))))), ?_⟩)
  · obtain ⟨dk, ln, lt, ls, l, taps, s, row, rfl, _⟩ := h
    rfl
  · obtain ⟨dk, ln, lt, ls, l, taps, s', row, rfl, hD, hl, nl, big, ok, k0, ke⟩ := h
    walk_at "d"
    repeat walk_at "s"
    refine ⟨l, rfl, ⟨_, hl⟩, fun C hC => ?_⟩
    refine lcIdx (f := fun j => (row[j]?).elim V.non fun x => V.bl (decide (-2147483648 ≤ x) && decide (x ≤ 2147483647))) hC hl (by rw [List.length_map]; omega) (fun i z H2 G F hx S h => ?_) (fun H2 S e => ?_)
    · rw [List.getElem?_map] at hx
      cases ex : row[i]? with
      | none => rw [ex] at hx; cases hx
      | some v =>
      rw [ex] at hx
      cases hx
      rw [ex] at h
      refine ⟨rfl, ?_⟩
      refine r_yes ?_
      refine r_itT rfl ?_
      repeat walk_at "s"
      refine r_iteB (fun c => ?_) fun c => ?_
      · have h := h _ (Same.refl _)
        repeat walk_at "s"
        have h : G (V.bl (decide (-2147483648 ≤ v) && decide (v ≤ 2147483647))) H2 := h
        rw [c, Bool.true_and] at h
        exact h
      · have h := h _ (Same.refl _)
        have h : G (V.bl (decide (-2147483648 ≤ v) && decide (v ≤ 2147483647))) H2 := h
        rw [c, Bool.false_and] at h
        exact h
    · rw [List.length_map, range_get row (fun x => V.bl (decide (-2147483648 ≤ x) && decide (x ≤ 2147483647))) V.non] at e
      have e2 : H2 C = some (.lst ((row.map fun x => decide (-2147483648 ≤ x) && decide (x ≤ 2147483647)).map V.bl)) := by rw [e, List.map_map]; rfl
      repeat walk_at "s"
      refine ⟨C, _, rfl, SqL.of e2, ?_⟩
      have er : (row.map fun x => decide (-2147483648 ≤ x) && decide (x ≤ 2147483647)).all _root_.id = rowOk row := by
        rw [List.all_map]
        rfl
      rw [er]
      repeat walk_at "s"
      refine ⟨szA, fun N hN => ?_⟩
      have S1 := S.trans (same_new (o := .lst [V.int (-1)]) hN)
      have gN : upd H2 N (.lst [V.int (-1)]) N = some (.lst ([(-1 : Int)].map V.int)) := upd_same
      generalize upd H2 N (.lst [V.int (-1)]) = H3 at *
      repeat walk_at "s"
      refine outE_must S1 gN (fun c => ?_) (fun c => ke c)
      have ok := ok c
      have k0 := k0 c
      repeat walk_at "s"
      refine ⟨szA, fun Z hZ => ?_⟩
      have S2 := S1.trans (same_new (o := .lst [V.int 0]) hZ)
      have gZ : upd H3 Z (.lst [V.int 0]) Z = some (.lst [V.int 0]) := upd_same
      have nZ := none_of S1 hZ
      generalize upd H3 Z (.lst [V.int 0]) = H4 at *
      have hD4 := hD.same S2
      have hL := hD4.line
      obtain ⟨dx0, dxl0, hd1, hd2, hd3, hd4, hd5⟩ := hD4
      have zls : Z ≠ ls := fun q => by
        obtain ⟨_, _, _, _, _, q4, _⟩ := hD
        rw [q, q4] at nZ; cases nZ
      repeat walk_at "s"
      refine ⟨dk, _, _, _, _, rfl, hd1, T.k_Desk, T.a_Desk_line, lk_here, ?_⟩
      repeat walk_at "s"
      refine LineAt.meth hL ?_
      repeat walk_at "s"
      refine ⟨ln, dxl0, lt, ls, l, taps, s', row, rfl, hd2, hd3, hd4, hd5, S2.lst hl, nl, ok, fun H5 D2 kp gs gD nD => ?_⟩
      repeat walk_at "s"
      have rl : (iRun taps s' row).length ≤ 2000 := by
        unfold iRun iOuts
        rw [List.length_cons, List.length_map, List.length_map, List.length_range]
        omega
      refine ⟨Z, D2, _, _, rfl, rfl, kp _ _ zls gZ, gD, Nat.le_trans (show 1 + ((iRun taps s' row).map V.int).length ≤ 1000000 by rw [List.length_map]; omega) (by decide), fun D hD5 => ?_⟩
      have ndk : dk ≠ ls := fun q => by rw [q, hd4] at hd1; cases hd1
      have nln : ln ≠ ls := fun q => by rw [q, hd4] at hd2; cases hd2
      have O : OutD K H dk ln lt ls H5 taps (s' ++ row) := ⟨fun b u _ _ n3 q => kp b u n3 (S2 _ _ q), ln, lt, ls, ⟨dx0, dxl0, kp _ _ ndk hd1, kp _ _ nln hd2, hd3.keep kp hd4 hd5, gs, hd5⟩, .inl rfl, .inl rfl, .inl rfl⟩
      have nw : H D = none := by
        cases z : H D with
        | none => rfl
        | some u =>
          by_cases q : D = ls
          · rw [q, gs] at hD5; cases hD5
          · rw [kp _ _ q (S2 _ _ z)] at hD5; cases hD5
      exact k0 _ D (O.then_ (same_new hD5)) upd_same nw
end
end Rt
set_option Elab.async false
set_option linter.all false
set_option maxRecDepth 100000
set_option maxHeartbeats 4000000
namespace Rt
open PySem PySem.Spec PyProof.Rows L2
open C8 (Cal Met Mak pe_c pe_mk pe_mt pe_mt0 pe_gc)
local macro_rules | `(tactic| walk_at "bd") => `(tactic| first
  | assumption | exact Bd.lit (by decide) | exact Bd.sub (by walk_at "bd") (by walk_at "bd") | exact Bd.add (by walk_at "bd") (by walk_at "bd") | exact Bd.mul (by walk_at "bd") (by walk_at "bd") | exact Bd.neg (by walk_at "bd") | exact Bd.lit (by decide))
local macro_rules | `(tactic| walk_at "r") => `(tactic| with_reducible first
  | refine r_seq ?_ | refine r_ret ?_ | refine r_asg ?_ | refine r_drop ?_ | refine r_op ?_ | refine r_un ?_ | refine r_c ?_ | refine r_cons ?_ | refine r_nil ?_ | refine r_i0 ?_ | refine r_U ?_ | refine r_name ?_ | refine r_if ?_ | refine r_test ?_ | refine r_tB ?_ | refine r_bl ?_
  | refine r_call ?_ | refine r_meth ?_ | refine r_fld ?_ | refine r_tup ?_ | refine r_lst ?_ | refine r_cb ?_ | refine r_andV ?_ | refine r_orV ?_ | refine r_notV ?_ | refine r_and ?_ | refine r_or ?_ | refine r_not ?_ | refine r_eqI ?_ | refine r_neI ?_ | refine r_eqB ?_ | refine r_neB ?_
  | refine r_next ?_ | refine r_par ?_ | refine r_lc ?_ | refine r_yes ?_ | refine r_iList ?_ | refine r_iRng1 ?_ | refine r_lstRg ?_ | refine r_rg1 ?_ | refine r_gcons ?_ | refine r_gnil ?_ | refine r_var (by with_unfolding_all rfl) ?_)
local macro_rules | `(tactic| walk_at "s") => `(tactic| first
  | walk_at "r" | (with_reducible refine r_itT rfl ?_) | (with_reducible refine r_itF rfl ?_) | (with_reducible refine r_ixT (by assumption) (by with_unfolding_all rfl) ?_) | ((with_reducible refine r_iM ?_ ?_); exact bd_mul (by walk_at "bd") (by walk_at "bd") (by decide)) | (with_reducible refine r_gtup (by assumption) (by with_unfolding_all rfl) ?_) | refine RoomAt.meth (by assumption) ?_)
local macro_rules | `(tactic| walk_at "d") => `(tactic| try dsimp only [cxOf, Cx.nox, Cx.wish])

local macro_rules | `(tactic| walk_at "s") => `(tactic| with_reducible first
  | refine r_sl ?_ | refine r_po0 ?_ | refine r_po1 ?_ | refine r_for ?_ | refine r_bm ?_ | refine r_make ?_ | refine r_sfld ?_ | refine r_inl ?_)

local macro_rules | `(tactic| walk_at "s") => `(tactic| with_reducible first
  | refine r_callS ?_ | refine r_methE ?_ | refine r_iRng3 ?_ | refine r_mkO ?_)

theorem r_no {b : Bool} {A B : Prop} (e : b = false) (k : B) : if b = true then A else B := by
  rw [e]
  exact k
theorem r_ye {b : Bool} {A B : Prop} (e : b = true) (k : A) : if b = true then A else B := by
  rw [e]
  exact k
/-- a call's numbers and rows in the heap; s: the line's samples -/
structure CallAt (K : PySem.W.Frag) (H : Hp) (an ar ls : Addr) (c : IC) : Prop where
  nums : SqL K H an (c.nums.map V.int)
  rows : ∃ as : List Addr, SqL K H ar (as.map V.ref) ∧ as.length = c.rows.length ∧ ∀ (j : Nat) (a : Addr) (row : List Int), as[j]? = some a → c.rows[j]? = some row → SqL K H a (row.map V.int) ∧ a ≠ ls
theorem CallAt.same {K : PySem.W.Frag} {H H' : Hp} {an ar ls : Addr} {c : IC} (h : CallAt K H an ar ls c) (e : Same H H') : CallAt K H' an ar ls c := by
  obtain ⟨h1, as, h2, h3, h4⟩ := h
  exact ⟨e.lst h1, as, e.lst h2, h3, fun j a row x y => ⟨e.lst (h4 j a row x y).1, (h4 j a row x y).2⟩⟩
/-- what a call keeps -/
structure ICOk (s : List Int) (c : IC) : Prop where
  rows : ∀ row ∈ c.rows, row.length ≤ 100000
  run : ∀ row, c = .run row → s.length + row.length ≤ 1000
  taps : ∀ p e most band rate speed told book, c = .taps p e most band rate speed told book → p.w = 1 ∧ e.w = 1 ∧ B4 100 p ∧ B4 100 e ∧ (∀ x ∈ book, 0 ≤ x) ∧ (most ≤ 4 → (tellN told + 2) ^ most ≤ 20000)
theorem row_one {K : PySem.W.Frag} {H : Hp} {an ar ls : Addr} {c : IC} {row : List Int} (h : CallAt K H an ar ls c) (e : c.rows = [row]) : ∃ a, SqL K H ar [.ref a] ∧ SqL K H a (row.map V.int) ∧ a ≠ ls := by
  obtain ⟨_, as, h2, h3, h4⟩ := h
  rw [e] at h3 h4
  match as, h3 with
  | [a], _ => exact ⟨a, h2, h4 0 a row rfl rfl⟩
theorem row_two {K : PySem.W.Frag} {H : Hp} {an ar ls : Addr} {c : IC} {r1 r2 : List Int} (h : CallAt K H an ar ls c) (e : c.rows = [r1, r2]) : ∃ a b, SqL K H ar [.ref a, .ref b] ∧ SqL K H a (r1.map V.int) ∧ SqL K H b (r2.map V.int) := by
  obtain ⟨_, as, h2, h3, h4⟩ := h
  rw [e] at h3 h4
  match as, h3 with
  | [a, b], _ => exact ⟨a, b, h2, (h4 0 a r1 rfl rfl).1, (h4 1 b r2 rfl rfl).1⟩
theorem line_more {taps : List (Nat × Int)} {s row : List Int} (ok : LineOk taps s) (h : s.length + row.length ≤ 1000) (k : rowOk row = true) : LineOk taps (s ++ row) := by
  refine ⟨ok.t4, by rw [List.length_append]; exact h, ok.tg, ok.td, fun x hx => ?_⟩
  rcases List.mem_append.mp hx with hx | hx
  · exact ok.sv x hx
  · have := List.all_eq_true.mp k x hx
    simp only [Bool.and_eq_true, decide_eq_true_eq] at this
    exact bd_of (by omega) (by omega)
theorem firstBad_ok {ok : Nat → Bool} {n : Nat} (h : firstBad ok n = none) : ∀ i, i < n → ok i = true := fun i hi => by
  unfold firstBad at h
  rw [List.find?_eq_none] at h
  simpa using h i (List.mem_range.mpr hi)
theorem read_ok {row : List Int} {t : List (Nat × Int)} (h : iRead row = .ok t) : t.length ≤ 4096 ∧ (∀ p ∈ t, Bd 50 p.2) ∧ ∀ p ∈ t, p.1 ≤ 262143 := by
  unfold iRead at h
  split at h
  · cases h
  · rename_i c
    split at h
    · cases h
    · rename_i f
      cases h
      have c : evShape row = true := by simpa using c
      unfold evShape at c
      simp only [Bool.and_eq_true, decide_eq_true_eq] at c
      have ok := firstBad_ok f
      have each : ∀ p ∈ tapsT row, p.1 ≤ 262143 ∧ p.2.natAbs ≤ 1099511627776 := fun p hp => by
        unfold tapsT at hp
        obtain ⟨i, hi, rfl⟩ := List.mem_map.mp hp
        have o := ok i (List.mem_range.mp hi)
        unfold okTap at o
        simp only [Bool.and_eq_true, decide_eq_true_eq] at o
        unfold tapAt
        dsimp only
        omega
      refine ⟨?_, fun p hp => ⟨?_⟩, fun p hp => (each p hp).1⟩
      · unfold tapsT
        rw [List.length_map, List.length_range]
        omega
      · have := (each p hp).2
        have e : (2 : Nat) ^ 50 = 1125899906842624 := by decide
        omega
section
variable {P : Program} {w : World} {K : PySem.W.Frag} {mg : Str → Option Value} {base : Heap}
def spAns (K : PySem.W.Frag) : Sp := fun vs H Q E => ∃ (dk ln lt ls an ar : Addr) (taps : List (Nat × Int)) (s : List Int) (c : IC), vs = [.ref dk, .int (c.place : Nat), .ref an, .ref ar] ∧ DeskAt K H dk ln lt ls taps s ∧ LineOk taps s ∧ CallAt K H an ar ls c ∧ ICOk s c ∧
  (∀ ans st, iAns taps s c = (.ok ans, st) → ∀ H' D, OutD K H dk ln lt ls H' st.1 st.2 → H' D = some (.lst (ans.map V.int)) → H D = none → Q (.ref D) H') ∧ ∀ l, (iAns taps s c).1 = .error l → OutE K Q E H (.error l)
theorem outE_of {K : PySem.W.Frag} {Q : VK} {E : XK} {H : Hp} {dk ln lt ls : Addr} {taps : List (Nat × Int)} {s : List Int} {r : Except (List Int) (List Int)} (hD : DeskAt K H dk ln lt ls taps s)
    (k0 : ∀ ans st, (r, (taps, s)) = ((.ok ans, st) : Except (List Int) (List Int) × LineS) → ∀ H' D, OutD K H dk ln lt ls H' st.1 st.2 → H' D = some (.lst (ans.map V.int)) → H D = none → Q (.ref D) H') (ke : ∀ l, r = .error l → OutE K Q E H (.error l)) : OutE K Q E H r := by
  cases r with
  | ok l => exact fun H' D S g n => k0 l _ rfl H' D (OutD.of_same hD S) g n
  | error l => exact ke l rfl
theorem ok_Desk_answered (T : Tx K mg base) : MetE (L2.CX P w) P w K mg base 13 (He.ga K "Desk") "answered" (spAns K) := by
  refine mkME T.f_Desk_answered T.k_Desk T.t_Desk_answered sc_Desk_answered (fun _ _ _ _ _ _ us hl => match us, hl with | [_, _, _, _], _ => rfl) (fun vs H Q E h => ?_) (fun f cdv A outer s H vs Q E hr h => ⟨_, (pss_cons (ps_if (pt_cmpR op_eq (pv 1) pe_int (nomark _)) (pss_one (ps_ret (pe_cE (ok_delay T) hr (by decide) rfl (fun σ => L2.passAt (L2.takes_of rfl rfl rfl rfl) σ) (pa_cons (pv 2) pa_nil)))) pss_nil)
      (pss_cons (ps_if (pt_cmpR op_eq (pv 1) pe_int (nomark _)) (pss_one (ps_ret (pe_cE (ok_taps T) hr (by decide) rfl (fun σ => L2.passAt (L2.takes_of rfl rfl rfl rfl) σ) (pa_cons (pv 2) (pa_cons (pv 3) pa_nil))))) pss_nil)
      (pss_cons (ps_if (pt_cmpR op_eq (pv 1) pe_int (nomark _)) (pss_cons (ps_expr (pe_cE (ok_read_taps T) hr (by decide) rfl (fun σ => L2.passAt (L2.takes_of rfl rfl rfl rfl) σ) (pa_cons (pe_ix (r := rIxL K) ix_list (pv 3) pe_int (fun _ _ => rfl)) pa_nil)))
      (pss_one (ps_ret (pe_lst (pa_cons pe_int pa_nil))))) pss_nil)
      (pss_cons (ps_if (pt_cmpR op_eq (pv 1) pe_int (nomark _)) (pss_one (ps_ret (pe_mt0 (ok_Desk_begin T) hr (by decide) (pv 0)))) pss_nil)
      (pss_cons (ps_if (pt_cmpR op_eq (pv 1) pe_int (nomark _)) (pss_one (ps_ret (pe_mE (ok_Desk_put T) hr (by decide) (fun σ => L2.passAt (L2.takes_of rfl rfl rfl rfl) σ) (pv 0) (pa_cons (pe_ix (r := rIxL K) ix_list (pv 3) pe_int (fun _ _ => rfl)) pa_nil)))) pss_nil)
      (pss_cons (ps_if (pt_cmpR op_eq (pv 1) pe_int (nomark _)) (pss_one (ps_ret (pe_op op_cat (pe_lst (pa_cons pe_int pa_nil)) (pe_c (ok_flat T) hr (by decide) rfl (pa_cons (pe_fld (pe_fld (pv 0) rfl) rfl) pa_nil))))) pss_nil)
      (pss_cons (ps_if (pt_cmpR op_eq (pv 1) pe_int (nomark _)) (pss_one (ps_ret (pe_mE (ok_Desk_run T) hr (by decide) (fun σ => L2.passAt (L2.takes_of rfl rfl rfl rfl) σ) (pv 0) (pa_cons (pe_ix (r := rIxL K) ix_list (pv 3) pe_int (fun _ _ => rfl)) pa_nil)))) pss_nil)
      (pss_cons (ps_if (pt_cmpR op_eq (pv 1) pe_int (nomark _)) (pss_one (ps_ret (pe_mE (ok_Desk_past T) hr (by decide) (fun σ => L2.passAt (L2.takes_of rfl rfl rfl rfl) σ) (pv 0) (pa_cons (pe_ix (r := rIxL K) ix_list (pv 2) pe_int (fun _ _ => rfl)) pa_nil)))) pss_nil)
      (pss_cons (ps_if (pt_cmpR op_eq (pv 1) pe_int (nomark _)) (pss_one (ps_ret (pe_lst (pa_cons (pe_callB call_len_seq (by rfl) T.n_len PySem.boot_len (pa_cons (pe_fld (pe_fld (pv 0) rfl) rfl) pa_nil)) pa_nil)))) pss_nil)
      (pss_one (ps_ret (pe_lst (pa_cons (pe_callTy call_int1 (by rfl) T.n_int (by decide +kernel) (pa_cons (pe_mt0 (ok_Line_is_quiet T) hr (by decide) (pe_fld (pv 0) rfl)) pa_nil)) pa_nil))))))))))))), ?_⟩)
  · obtain ⟨dk, ln, lt, ls, an, ar, taps, s, c, rfl, _⟩ := h
    rfl
  · obtain ⟨dk, ln, lt, ls, an, ar, taps, s', c, rfl, hD, lok, hC, cok, k0, ke⟩ := h
    walk_at "d"
    cases c with
    | delay q a b =>
      repeat walk_at "s"
      refine ⟨an, q, a, b, rfl, hC.nums, ?_⟩
      exact outE_of hD k0 ke
    | taps p e most band rate speed told book =>
      repeat walk_at "s"
      obtain ⟨ra, rb, g1, g2, g3⟩ := row_two hC rfl
      obtain ⟨c1, c2, c3, c4, c5, c6⟩ := cok.taps _ _ _ _ _ _ _ _ rfl
      refine ⟨an, ar, ra, rb, p, e, most, band, rate, speed, told, book, rfl, ⟨hC.nums⟩, g1, g2, g3, c1, c2, c3, c4, cok.rows told (by show told ∈ [told, book]; simp), c5, c6, ?_⟩
      exact outE_of hD k0 ke
    | judge row =>
      repeat walk_at "s"
      obtain ⟨ra, g1, g2, _⟩ := row_one hC rfl
      refine r_ixL g1 rfl ?_
      repeat walk_at "s"
      refine ⟨ra, row, rfl, g2, cok.rows row (by show row ∈ [row]; simp), fun t it H2 lt2 S g nlt => ?_, fun l il => ?_⟩
      · repeat walk_at "s"
        refine ⟨szA, fun D hD2 => ?_⟩
        refine k0 [0] (taps, s') ?_ _ D (OutD.of_same hD (S.trans (same_new hD2))) upd_same (none_of S hD2)
        show ((match iRead row with | .ok _ => .ok [0] | .error l => .error l : Except (List Int) (List Int)), taps, s') = _
        rw [it]
      · refine ke l ?_
        show (match iRead row with | .ok _ => .ok [0] | .error l => .error l : Except (List Int) (List Int)) = _
        rw [il]
    | begin_ =>
      repeat walk_at "s"
      refine DeskAt.meth hD ?_
      repeat walk_at "s"
      exact ⟨dk, ln, lt, ls, taps, s', rfl, hD, fun H' D O g n => k0 [0] ([], []) rfl H' D O g n⟩
    | set row =>
      repeat walk_at "s"
      refine DeskAt.meth hD ?_
      repeat walk_at "s"
      obtain ⟨ra, g1, g2, _⟩ := row_one hC rfl
      refine r_ixL g1 rfl ?_
      repeat walk_at "s"
      refine ⟨dk, ln, lt, ls, ra, taps, s', row, rfl, hD, g2, cok.rows row (by show row ∈ [row]; simp), fun t it H' D O g n => ?_, fun l il => ?_⟩
      · refine k0 [0] (t, s') ?_ H' D O g n
        show (match iRead row with | .ok u => (.ok [0], u, s') | .error l => (.error l, taps, s') : Except (List Int) (List Int) × LineS) = _
        rw [it]
      · refine ke l ?_
        show (match iRead row with | .ok u => (.ok [0], u, s') | .error l => (.error l, taps, s') : Except (List Int) (List Int) × LineS).1 = _
        rw [il]
    | get =>
      repeat walk_at "s"
      refine ⟨szA, fun Z hZ => ?_⟩
      have S1 := same_new (o := .lst [V.int 0]) hZ
      have gZ : upd H Z (.lst [V.int 0]) Z = some (.lst [V.int 0]) := upd_same
      generalize upd H Z (.lst [V.int 0]) = H1 at *
      obtain ⟨dx0, dxl0, hd1, hd2, hd3, hd4, hd5⟩ := hD.same S1
      repeat walk_at "s"
      refine ⟨dk, _, _, _, _, rfl, hd1, T.k_Desk, T.a_Desk_line, lk_here, ?_⟩
      repeat walk_at "s"
      refine ⟨ln, _, _, _, _, rfl, hd2, T.k_Line, T.a_Line_taps, lk_here, ?_⟩
      repeat walk_at "s"
      have t4 := lok.t4
      refine ⟨lt, taps, rfl, hd3, by omega, fun H2 D2 S2 g2 n2 => ?_⟩
      repeat walk_at "s"
      have fl : (flatT taps).length ≤ 20000 := by
        rw [flatT_len]
        omega
      refine ⟨Z, D2, _, _, rfl, rfl, S2 _ _ gZ, g2, Nat.le_trans (show 1 + ((flatT taps).map V.int).length ≤ 1000000 by rw [List.length_map]; omega) (by decide), fun D hD3 => ?_⟩
      have S12 := S1.trans S2
      exact k0 (0 :: flatQ taps) (taps, s') rfl _ D (OutD.of_same hD (S12.trans (same_new hD3))) upd_same (none_of S12 hD3)
    | run row =>
      repeat walk_at "s"
      refine DeskAt.meth hD ?_
      repeat walk_at "s"
      obtain ⟨ra, g1, g2, g3⟩ := row_one hC rfl
      refine r_ixL g1 rfl ?_
      repeat walk_at "s"
      have len := cok.run row rfl
      refine ⟨dk, ln, lt, ls, ra, taps, s', row, rfl, hD, g2, g3, by omega, line_more lok len, fun c H' D O g n => ?_, fun c => ?_⟩
      · refine k0 (0 :: iRun taps s' row) (taps, s' ++ row) ?_ H' D O g n
        show (if samplesOk row = false then (.error [-1], taps, s') else (.ok (0 :: iRun taps s' row), taps, s' ++ row) : Except (List Int) (List Int) × LineS) = _
        rw [if_neg (by rw [show samplesOk row = true from c]; decide)]
      · refine ke [-1] ?_
        show (if samplesOk row = false then (.error [-1], taps, s') else (.ok (0 :: iRun taps s' row), taps, s' ++ row) : Except (List Int) (List Int) × LineS).1 = _
        rw [if_pos (show samplesOk row = false from c)]
    | past k =>
      repeat walk_at "s"
      refine DeskAt.meth hD ?_
      repeat walk_at "s"
      refine r_ixL hC.nums rfl ?_
      repeat walk_at "s"
      refine ⟨dk, ln, lt, ls, taps, s', k, rfl, hD, ?_⟩
      exact outE_of hD k0 ke
    | at_ =>
      repeat walk_at "s"
      obtain ⟨dx0, dxl0, hd1, hd2, hd3, hd4, hd5⟩ := id hD
      refine ⟨dk, _, _, _, _, rfl, hd1, T.k_Desk, T.a_Desk_line, lk_here, ?_⟩
      repeat walk_at "s"
      refine ⟨ln, _, _, _, _, rfl, hd2, T.k_Line, T.a_Line_samples, (lk_past (by decide +kernel)).trans lk_here, ?_⟩
      repeat walk_at "s"
      refine ⟨ls, _, rfl, .inl (SqL.of hd4), ?_⟩
      rw [List.length_map]
      repeat walk_at "s"
      refine ⟨szA, fun D hD3 => ?_⟩
      exact k0 [(s'.length : Int)] (taps, s') rfl _ D (OutD.of_same hD (same_new hD3)) upd_same hD3
    | quiet =>
      repeat walk_at "s"
      obtain ⟨dx0, dxl0, hd1, hd2, hd3, hd4, hd5⟩ := id hD
      refine ⟨dk, _, _, _, _, rfl, hd1, T.k_Desk, T.a_Desk_line, lk_here, ?_⟩
      repeat walk_at "s"
      refine LineAt.meth hD.line ?_
      repeat walk_at "s"
      refine ⟨ln, taps, s', rfl, hD.line, lok, fun H1 S1 => ?_⟩
      repeat walk_at "s"
      refine .inr ⟨_, rfl, ?_⟩
      repeat walk_at "s"
      refine ⟨szA, fun D hD3 => ?_⟩
      exact k0 [if iQuiet taps s' = true then 1 else 0] (taps, s') rfl _ D (OutD.of_same hD (S1.trans (same_new hD3))) upd_same (none_of S1 hD3)
def spCalled (K : PySem.W.Frag) : Sp := fun vs H Q _ => ∃ (dk ln lt ls an ar : Addr) (taps : List (Nat × Int)) (s : List Int) (c : IC), vs = [.ref dk, .int (c.place : Nat), .ref an, .ref ar] ∧ DeskAt K H dk ln lt ls taps s ∧ LineOk taps s ∧ CallAt K H an ar ls c ∧ ICOk s c ∧
  ∀ H' D, OutD K H dk ln lt ls H' (iAns taps s c).2.1 (iAns taps s c).2.2 → H' D = some (.lst ((ansOf (iAns taps s c).1).map V.int)) → (H D = none ∨ Below0 (ansOf (iAns taps s c).1)) → Q (.ref D) H'
theorem ok_Desk_called (T : Tx K mg base) : Met P w K mg base 14 (He.ga K "Desk") "called" (spCalled K) [] := by
  refine mkM T.f_Desk_called T.k_Desk T.t_Desk_called sc_Desk_called (fun _ _ _ _ _ _ us hl => match us, hl with | [_, _, _, _], _ => rfl) (fun vs H Q E h => ?_) (fun f cdv A outer s H vs Q E hr h => ⟨_, (pss_cons (ps_try_as (i := 5) rfl rfl sc_Desk_called.nd rfl rfl ⟨rfl, by decide, .inl T.g_Refused⟩ takes0
      (fun W pn xe tk _ => pss_one (ps_set (i := 4) sc_Desk_called.nd rfl (Or.inl rfl) (pe_mE (ok_Desk_answered T) hr (by decide) (fun σ => L2.passAt tk σ) (pv 0) (pa_cons (pv 1) (pa_cons (pv 2) (pa_cons (pv 3) pa_nil))))))
      (fun a oe cls d pn hz hf => pss_one (ps_ret (pe_xf T.xR T.a_Refused_numbers hz hf (pv 5)))))
      (pss_one (ps_ret (pv 4)))), ?_⟩)
  · obtain ⟨dk, ln, lt, ls, an, ar, taps, s, c, rfl, _⟩ := h
    rfl
  · obtain ⟨dk, ln, lt, ls, an, ar, taps, s', c, rfl, hD, lok, hC, cok, k⟩ := h
    walk_at "d"
    repeat walk_at "s"
    refine DeskAt.meth hD ?_
    repeat walk_at "s"
    refine ⟨dk, ln, lt, ls, an, ar, taps, s', c, rfl, hD, lok, hC, cok, fun ans st e H' D O g n => ?_, fun l e H' d D S g1 g2 n => ?_⟩
    · rw [e] at k
      repeat walk_at "s"
      exact k H' D O g (.inl n)
    · obtain ⟨b, st⟩ := ans_below (st := (iAns taps s' c).2) (l := l) (t := taps) (s := s') (c := c) (by rw [← e])
      rw [e, st] at k
      refine ⟨true, T.e_Refused_Refused, fun _ a ha => ?_, fun q => nomatch q⟩
      repeat walk_at "s"
      refine r_xf ?_
      repeat walk_at "s"
      refine ⟨rfl, rfl, d, _, _, rfl, g2, lk_here, ?_⟩
      exact k H' D (OutD.of_same hD S) g1 (.inr b)
end
end Rt
set_option Elab.async false
set_option linter.all false
set_option maxRecDepth 100000
set_option maxHeartbeats 4000000
namespace Rt
open PySem PySem.Spec PyProof.Rows L2
open C8 (Cal Met Mak pe_c pe_mk pe_mt pe_mt0 pe_gc)
local macro_rules | `(tactic| walk_at "bd") => `(tactic| first
  | assumption | exact Bd.lit (by decide) | exact Bd.sub (by walk_at "bd") (by walk_at "bd") | exact Bd.add (by walk_at "bd") (by walk_at "bd") | exact Bd.mul (by walk_at "bd") (by walk_at "bd") | exact Bd.neg (by walk_at "bd") | exact Bd.lit (by decide))
local macro_rules | `(tactic| walk_at "r") => `(tactic| with_reducible first
  | refine r_seq ?_ | refine r_ret ?_ | refine r_asg ?_ | refine r_drop ?_ | refine r_op ?_ | refine r_un ?_ | refine r_c ?_ | refine r_cons ?_ | refine r_nil ?_ | refine r_i0 ?_ | refine r_U ?_ | refine r_name ?_ | refine r_if ?_ | refine r_test ?_ | refine r_tB ?_ | refine r_bl ?_
  | refine r_call ?_ | refine r_meth ?_ | refine r_fld ?_ | refine r_tup ?_ | refine r_lst ?_ | refine r_cb ?_ | refine r_andV ?_ | refine r_orV ?_ | refine r_notV ?_ | refine r_and ?_ | refine r_or ?_ | refine r_not ?_ | refine r_eqI ?_ | refine r_neI ?_ | refine r_eqB ?_ | refine r_neB ?_
  | refine r_next ?_ | refine r_par ?_ | refine r_lc ?_ | refine r_yes ?_ | refine r_iList ?_ | refine r_iRng1 ?_ | refine r_lstRg ?_ | refine r_rg1 ?_ | refine r_gcons ?_ | refine r_gnil ?_ | refine r_var (by with_unfolding_all rfl) ?_)
local macro_rules | `(tactic| walk_at "s") => `(tactic| first
  | walk_at "r" | (with_reducible refine r_itT rfl ?_) | (with_reducible refine r_itF rfl ?_) | (with_reducible refine r_ixT (by assumption) (by with_unfolding_all rfl) ?_) | ((with_reducible refine r_iM ?_ ?_); exact bd_mul (by walk_at "bd") (by walk_at "bd") (by decide)) | (with_reducible refine r_gtup (by assumption) (by with_unfolding_all rfl) ?_) | refine RoomAt.meth (by assumption) ?_)
local macro_rules | `(tactic| walk_at "d") => `(tactic| try dsimp only [cxOf, Cx.nox, Cx.wish])

local macro_rules | `(tactic| walk_at "s") => `(tactic| with_reducible first
  | refine r_sl ?_ | refine r_po0 ?_ | refine r_po1 ?_ | refine r_for ?_ | refine r_bm ?_ | refine r_make ?_ | refine r_sfld ?_ | refine r_inl ?_)

local macro_rules | `(tactic| walk_at "s") => `(tactic| with_reducible first
  | refine r_callS ?_ | refine r_methE ?_ | refine r_iRng3 ?_ | refine r_mkO ?_)

def encRows (rows : List (List Int)) : List Int := rows.flatMap fun r => (r.length : Int) :: r
def encC (c : IC) : List Int := (c.place : Int) :: (c.nums ++ encRows c.rows)
theorem cut_app {l A m B : List Int} {x y : Int} (el : l = A ++ (m ++ B)) (ex : x = (A.length : Nat)) (ey : y = ((A.length + m.length : Nat) : Int)) : cutV (l.map V.int) (some x) (some y) = m.map V.int := by
  subst ex ey el
  unfold cutV
  have e : (A ++ (m ++ B)).length = A.length + (m.length + B.length) := by rw [List.length_append, List.length_append]
  rw [HT.sIx_nat, HT.sIx_nat, List.length_map, e, Nat.min_eq_left (by omega), Nat.min_eq_left (by omega), show A.length + m.length - A.length = m.length by omega]
  rw [List.map_append, List.map_append, List.drop_append_of_le_length (by rw [List.length_map]; exact Nat.le_refl _), List.drop_of_length_le (by rw [List.length_map]; exact Nat.le_refl _), List.nil_append, List.take_append_of_le_length (by rw [List.length_map]; exact Nat.le_refl _), List.take_of_length_le (by rw [List.length_map]; exact Nat.le_refl _)]
theorem at_app {l A B : List Int} {x z : Int} (el : l = A ++ (x :: B)) (ez : z = (A.length : Nat)) : atI (l.map V.int) z = some (.int x) := by
  subst el
  refine at_of ez ?_
  rw [List.getElem?_map, List.getElem?_append_right (Nat.le_refl _), Nat.sub_self]
  rfl
theorem encRows_snoc {rows : List (List Int)} {r : List Int} : encRows (rows ++ [r]) = encRows rows ++ ((r.length : Int) :: r) := by
  unfold encRows
  rw [List.flatMap_append]
  simp
theorem encRows_split {rows : List (List Int)} {i : Nat} (h : i < rows.length) : encRows rows = encRows (rows.take i) ++ ((rows[i].length : Int) :: rows[i]) ++ encRows (rows.drop (i + 1)) := by
  have e : rows = rows.take i ++ [rows[i]] ++ rows.drop (i + 1) := by
    rw [List.take_append_getElem h, List.take_append_drop]
  conv => lhs; rw [e]
  unfold encRows
  rw [List.flatMap_append, List.flatMap_append]
  simp
section
variable {P : Program} {w : World} {K : PySem.W.Frag} {mg : Str → Option Value} {base : Heap}
theorem at_tabN (c : IC) : atI (tabN.map (He.Dv.v K)) (c.place : Nat) = some (.int (c.nums.length : Nat)) := by cases c <;> rfl
theorem at_tabL (c : IC) : atI (tabL.map (He.Dv.v K)) (c.place : Nat) = some (.int (c.rows.length : Nat)) := by cases c <;> rfl
def spCallAt (K : PySem.W.Frag) : Sp := fun vs H Q _ => ∃ (lc : Addr) (l pre rest : List Int) (c : IC), vs = [.ref lc, .int (pre.length : Nat)] ∧ SqL K H lc (l.map V.int) ∧ l = pre ++ (encC c ++ rest) ∧ l.length ≤ 100000 ∧
  ∀ (H' : Hp) (t an ar : Addr) (as : List Addr), Same H H' → SqT K H' t [.int (c.place : Nat), .ref an, .ref ar, .int ((pre.length + (encC c).length : Nat) : Int)] → H' an = some (.lst (c.nums.map V.int)) → H' ar = some (.lst (as.map V.ref)) → as.length = c.rows.length →
    (∀ (j : Nat) (a : Addr) (row : List Int), as[j]? = some a → c.rows[j]? = some row → H' a = some (.lst (row.map V.int)) ∧ H a = none) → Q (.ref t) H'
theorem ok_call_at (T : Tx K mg base) : Cal P w K mg base 1 "call_at" (spCallAt K) [] := by
  refine mkC T.f_call_at T.g_call_at sc_call_at (fun _ _ _ _ _ _ us hl => match us, hl with | [_, _], _ => rfl) (fun vs H Q E h => ?_) (fun f cdv A outer s H vs Q E hr h => ⟨_, (pss_cons (ps_set (i := 2) sc_call_at.nd rfl (Or.inl rfl) (pe_ix (r := rIxL K) ix_list (pv 0) (pv 1) (fun _ _ => rfl)))
      (pss_cons (ps_set (i := 3) sc_call_at.nd rfl (Or.inl rfl) (pe_op op_add (pe_op op_add (pv 1) pe_int) (pe_ix (r := rIxT K) ix_tup (pe_gc rfl (ref_gc T.g_NUMBERS)) (pv 2) (fun _ _ => rfl))))
      (pss_cons (ps_set (i := 4) sc_call_at.nd rfl (Or.inl rfl) (pe_slice (r := rSlL K) sl_list (pv 0) (po_some (pe_op op_add (pv 1) pe_int)) (po_some (pv 3))))
      (pss_cons (ps_set (i := 5) sc_call_at.nd rfl (Or.inl rfl) (pe_lst pa_nil))
      (pss_cons (ps_for PassesOwn.never rfl (pi_range1 (by rfl) T.n_range (pa_cons (pe_ix (r := rIxT K) ix_tup (pe_gc rfl (ref_gc T.g_LISTS)) (pv 2) (fun _ _ => rfl)) pa_nil)) (pg_name (i := 6) sc_call_at.nd rfl (Or.inl rfl)) (pss_cons (ps_expr (pe_bm PySem.F.plainAttrs_list PySem.F.slot_list_append PySem.F.type_list_append mt_append (pv 5) (pa_cons (pe_slice (r := rSlL K) sl_list (pv 0) (po_some (pe_op op_add (pv 3) pe_int)) (po_some (pe_op op_add (pe_op op_add (pv 3) pe_int) (pe_ix (r := rIxL K) ix_list (pv 0) (pv 3) (fun _ _ => rfl))))) pa_nil)))
      (pss_one (ps_set (i := 3) sc_call_at.nd rfl (Or.inl rfl) (pe_op op_add (pe_op op_add (pv 3) pe_int) (pe_ix (r := rIxL K) ix_list (pv 0) (pv 3) (fun _ _ => rfl)))))))
      (pss_one (ps_ret (pe_tup (pa_cons (pv 2) (pa_cons (pv 4) (pa_cons (pv 5) (pa_cons (pv 3) pa_nil)))))))))))), ?_⟩)
  · obtain ⟨lc, l, pre, rest, c, rfl, _⟩ := h
    rfl
  · obtain ⟨lc, l, pre, rest, c, rfl, hl, el, big, k⟩ := h
    have clen : (encC c).length = 1 + c.nums.length + (encRows c.rows).length := by
      unfold encC
      rw [List.length_cons, List.length_append]
      omega
    have llen : l.length = pre.length + (encC c).length + rest.length := by rw [el, List.length_append, List.length_append]; omega
    have rl : c.rows.length ≤ 2 := by cases c <;> (unfold IC.rows; simp)
    walk_at "d"
    repeat walk_at "s"
    refine r_ixL hl (at_app (A := pre) (x := (c.place : Int)) (B := c.nums ++ encRows c.rows ++ rest) (by rw [el]; rfl) rfl) ?_
    repeat walk_at "s"
    refine r_ixT (He.tupB_ok T.ex.2.2.2.1 _) (at_tabN c) ?_
    repeat walk_at "s"
    refine ⟨lc, _, rfl, hl, fun an han => ?_⟩
    rw [cut_app (A := pre ++ [(c.place : Int)]) (m := c.nums) (B := encRows c.rows ++ rest) (by rw [el]; unfold encC; simp) (by rw [List.length_append]; show _ = ((pre.length + 1 : Nat) : Int); omega) (by rw [List.length_append]; show _ = ((pre.length + 1 + c.nums.length : Nat) : Int); omega)]
    have S1 := same_new (o := .lst (c.nums.map V.int)) han
    have gan : upd H an (.lst (c.nums.map V.int)) an = some (.lst (c.nums.map V.int)) := upd_same
    generalize upd H an (.lst (c.nums.map V.int)) = H1 at *
    repeat walk_at "s"
    refine ⟨sz0, fun ar har => ?_⟩
    have S2 := S1.trans (same_new (o := .lst []) har)
    have gan2 := (same_new (o := .lst []) har) _ _ gan
    have gar : upd H1 ar (.lst []) ar = some (.lst (([] : List Addr).map V.ref)) := upd_same
    have nar := none_of S1 har
    have anar : an ≠ ar := fun q => by rw [← q, gan] at har; cases har
    generalize upd H1 ar (.lst []) = H2 at *
    repeat walk_at "s"
    refine r_ixT (He.tupB_ok T.ex.2.2.2.2 _) (at_tabL c) ?_
    repeat walk_at "s"
    refine ⟨_, rfl, by omega, by omega, ?_⟩
    rw [Int.toNat_natCast]
    refine for_range (lo := 0) (n := c.rows.length) (fun i σ H' => ∃ (x6 : Option V) (as : List Addr), σ = [some (.ref lc), some (.int (pre.length : Nat)), some (.int (c.place : Nat)), some (.int ((pre.length + 1 + c.nums.length + (encRows (c.rows.take i)).length : Nat) : Int)), some (.ref an), some (.ref ar), x6] ∧ Same H H' ∧
      H' an = some (.lst (c.nums.map V.int)) ∧ H' ar = some (.lst (as.map V.ref)) ∧ as.length = i ∧ ∀ (j : Nat) (a : Addr) (row : List Int), as[j]? = some a → c.rows[j]? = some row → (H' a = some (.lst (row.map V.int)) ∧ H a = none) ∧ a ≠ ar)
      ⟨none, [], ?_, S2, gan2, gar, rfl, fun j a row e => by simp at e⟩ (fun i σ H3 hi z => ?_) (fun σ H3 z => ?_)
    · rw [List.take_zero]
      show [some (V.ref lc), some (V.int (pre.length : Nat)), some (V.int (c.place : Nat)), some (V.int ((pre.length : Nat) + 1 + (c.nums.length : Nat))), some (V.ref an), some (V.ref ar), none] = _
      rw [show (((pre.length : Nat) : Int) + 1 + ((c.nums.length : Nat) : Int)) = ((pre.length + 1 + c.nums.length + (encRows []).length : Nat) : Int) by show _ = ((pre.length + 1 + c.nums.length + 0 : Nat) : Int); omega]
    · obtain ⟨x6, as, rfl, S3, g1, g2, al, ag⟩ := z
      have es := encRows_split hi
      have el2 : l = (pre ++ (c.place : Int) :: (c.nums ++ encRows (c.rows.take i))) ++ (((c.rows[i]).length : Int) :: (c.rows[i] ++ (encRows (c.rows.drop (i + 1)) ++ rest))) := by
        rw [el]
        unfold encC
        rw [es]
        simp
      have eA : (pre ++ (c.place : Int) :: (c.nums ++ encRows (c.rows.take i))).length = pre.length + 1 + c.nums.length + (encRows (c.rows.take i)).length := by
        rw [List.length_append, List.length_cons, List.length_append]
        omega
      have et : encRows (c.rows.take (i + 1)) = encRows (c.rows.take i) ++ (((c.rows[i]).length : Int) :: c.rows[i]) := by
        rw [← encRows_snoc, List.take_append_getElem hi]
      have etl : (encRows (c.rows.take (i + 1))).length = (encRows (c.rows.take i)).length + 1 + (c.rows[i]).length := by
        rw [et, List.length_append, List.length_cons]
        omega
      have eq : c.rows[i]? = some c.rows[i] := List.getElem?_eq_getElem hi
      rw [etl]
      generalize c.rows[i] = row at *
      rw [← eA]
      generalize pre ++ (c.place : Int) :: (c.nums ++ encRows (c.rows.take i)) = B at *
      repeat walk_at "s"
      refine ⟨tyl g2, ?_⟩
      repeat walk_at "s"
      refine r_ixL (S3.lst hl) (at_app (A := B) el2 rfl) ?_
      repeat walk_at "s"
      refine ⟨lc, _, rfl, S3.lst hl, fun a ha => ?_⟩
      rw [cut_app (A := B ++ [(row.length : Int)]) (m := row) (B := encRows (c.rows.drop (i + 1)) ++ rest) (by rw [el2]; simp) (by rw [List.length_append]; show _ = ((B.length + 1 : Nat) : Int); omega) (by rw [List.length_append]; show _ = ((B.length + 1 + row.length : Nat) : Int); omega)]
      have S34 := same_new (o := .lst (row.map V.int)) ha
      have S4 := S3.trans S34
      have ga : upd H3 a (.lst (row.map V.int)) a = some (.lst (row.map V.int)) := upd_same
      have na := none_of S3 ha
      have g1 := S34 _ _ g1
      have g2' := S34 _ _ g2
      have naa : a ≠ ar := fun q => by rw [q, g2] at ha; cases ha
      have ag' : ∀ (j : Nat) (b : Addr) (r : List Int), as[j]? = some b → c.rows[j]? = some r → (upd H3 a (.lst (row.map V.int)) b = some (.lst (r.map V.int)) ∧ H b = none) ∧ b ≠ ar := fun j b r e1 e2 => ⟨⟨S34 _ _ (ag j b r e1 e2).1.1, (ag j b r e1 e2).1.2⟩, (ag j b r e1 e2).2⟩
      clear ag g2
      generalize upd H3 a (.lst (row.map V.int)) = H4 at *
      repeat walk_at "s"
      refine ⟨ar, _, _, rfl, rfl, g2', by rw [List.length_map]; exact sz1' (by omega), ?_⟩
      have S5 : Same H (upd H4 ar (.lst (as.map V.ref ++ [V.ref a]))) := same_put S4 nar
      have up : ∀ b, b ≠ ar → upd H4 ar (.lst (as.map V.ref ++ [V.ref a])) b = H4 b := fun b n => upd_ne n
      have gar5 : upd H4 ar (.lst (as.map V.ref ++ [V.ref a])) ar = some (.lst ((as ++ [a]).map V.ref)) := by rw [upd_same, List.map_append]; rfl
      generalize upd H4 ar (.lst (as.map V.ref ++ [V.ref a])) = H5 at *
      repeat walk_at "s"
      refine r_ixL (S5.lst hl) (at_app (A := B) el2 rfl) ?_
      repeat walk_at "s"
      refine ⟨some (.int (0 + (i : Int))), as ++ [a], ?_, S5, (up _ anar).trans g1, gar5, by rw [List.length_append, al]; rfl, fun j b r e1 e2 => ?_⟩
      · show [some (V.ref lc), some (V.int (pre.length : Nat)), some (V.int (c.place : Nat)), some (V.int (((B.length : Nat) : Int) + 1 + ((row.length : Nat) : Int))), some (V.ref an), some (V.ref ar), some (V.int (0 + (i : Int)))] = _
        rw [show ((B.length : Nat) : Int) + 1 + ((row.length : Nat) : Int) = ((pre.length + 1 + c.nums.length + ((encRows (c.rows.take i)).length + 1 + row.length) : Nat) : Int) by omega]
      · by_cases q : j < as.length
        · rw [List.getElem?_append_left q] at e1
          obtain ⟨⟨h1, h2⟩, h3⟩ := ag' j b r e1 e2
          exact ⟨⟨(up _ h3).trans h1, h2⟩, h3⟩
        · rw [List.getElem?_append_right (by omega)] at e1
          have z0 : j - as.length = 0 := by
            have := (List.getElem?_eq_some_iff.mp e1).1
            simp at this
            omega
          rw [z0] at e1
          cases e1
          have : j = i := by omega
          subst this
          rw [eq] at e2
          cases e2
          exact ⟨⟨(up _ naa).trans ga, na⟩, naa⟩
    · obtain ⟨x6, as, rfl, S3, g1, g2, al, ag⟩ := z
      repeat walk_at "s"
      refine ⟨sz4, fun t ht => ?_⟩
      have S34 := same_new (o := .tup [V.int (c.place : Nat), V.ref an, V.ref ar, V.int ((pre.length + 1 + c.nums.length + (encRows (c.rows.take c.rows.length)).length : Nat) : Int)]) ht
      refine k _ t an ar as (S3.trans S34) ?_ (S34 _ _ g1) (S34 _ _ g2) al fun j a row e1 e2 => ⟨S34 _ _ (ag j a row e1 e2).1.1, (ag j a row e1 e2).1.2⟩
      rw [clen, show pre.length + (1 + c.nums.length + (encRows c.rows).length) = pre.length + 1 + c.nums.length + (encRows (c.rows.take c.rows.length)).length by rw [List.take_length]; omega]
      exact SqT.of upd_same
end
end Rt
set_option Elab.async false
set_option linter.all false
set_option maxRecDepth 100000
set_option maxHeartbeats 4000000
namespace Rt
open PySem PySem.Spec PyProof.Rows L2
open C8 (Cal Met Mak pe_c pe_mk pe_mt pe_mt0 pe_gc)
local macro_rules | `(tactic| walk_at "bd") => `(tactic| first
  | assumption | exact Bd.lit (by decide) | exact Bd.sub (by walk_at "bd") (by walk_at "bd") | exact Bd.add (by walk_at "bd") (by walk_at "bd") | exact Bd.mul (by walk_at "bd") (by walk_at "bd") | exact Bd.neg (by walk_at "bd") | exact Bd.lit (by decide))
local macro_rules | `(tactic| walk_at "r") => `(tactic| with_reducible first
  | refine r_seq ?_ | refine r_ret ?_ | refine r_asg ?_ | refine r_drop ?_ | refine r_op ?_ | refine r_un ?_ | refine r_c ?_ | refine r_cons ?_ | refine r_nil ?_ | refine r_i0 ?_ | refine r_U ?_ | refine r_name ?_ | refine r_if ?_ | refine r_test ?_ | refine r_tB ?_ | refine r_bl ?_
  | refine r_call ?_ | refine r_meth ?_ | refine r_fld ?_ | refine r_tup ?_ | refine r_lst ?_ | refine r_cb ?_ | refine r_andV ?_ | refine r_orV ?_ | refine r_notV ?_ | refine r_and ?_ | refine r_or ?_ | refine r_not ?_ | refine r_eqI ?_ | refine r_neI ?_ | refine r_eqB ?_ | refine r_neB ?_
  | refine r_next ?_ | refine r_par ?_ | refine r_lc ?_ | refine r_yes ?_ | refine r_iList ?_ | refine r_iRng1 ?_ | refine r_lstRg ?_ | refine r_rg1 ?_ | refine r_gcons ?_ | refine r_gnil ?_ | refine r_var (by with_unfolding_all rfl) ?_)
local macro_rules | `(tactic| walk_at "s") => `(tactic| first
  | walk_at "r" | (with_reducible refine r_itT rfl ?_) | (with_reducible refine r_itF rfl ?_) | (with_reducible refine r_ixT (by assumption) (by with_unfolding_all rfl) ?_) | ((with_reducible refine r_iM ?_ ?_); exact bd_mul (by walk_at "bd") (by walk_at "bd") (by decide)) | (with_reducible refine r_gtup (by assumption) (by with_unfolding_all rfl) ?_) | refine RoomAt.meth (by assumption) ?_)
local macro_rules | `(tactic| walk_at "d") => `(tactic| try dsimp only [cxOf, Cx.nox, Cx.wish])

local macro_rules | `(tactic| walk_at "s") => `(tactic| with_reducible first
  | refine r_sl ?_ | refine r_po0 ?_ | refine r_po1 ?_ | refine r_for ?_ | refine r_bm ?_ | refine r_make ?_ | refine r_sfld ?_ | refine r_inl ?_)

local macro_rules | `(tactic| walk_at "s") => `(tactic| with_reducible first
  | refine r_callS ?_ | refine r_methE ?_ | refine r_iRng3 ?_ | refine r_mkO ?_)

def encAll (cs : List IC) : List Int := cs.flatMap encC
def samplesOf : IC → Nat
  | .run row => row.length
  | _ => 0
/-- what may be asked of a call besides -/
structure Askd (c : IC) : Prop where
  rows : ∀ row ∈ c.rows, row.length ≤ 100000
  taps : ∀ p e most band rate speed told book, c = .taps p e most band rate speed told book → p.w = 1 ∧ e.w = 1 ∧ B4 100 p ∧ B4 100 e ∧ (∀ x ∈ book, 0 ≤ x) ∧ (most ≤ 4 → (tellN told + 2) ^ most ≤ 20000)
theorem line_nil : LineOk [] [] := ⟨by decide, by decide, fun t h => by simp at h, fun t h => by simp at h, fun t h => by simp at h⟩
theorem LineOk.taps_ {t u : List (Nat × Int)} {s : List Int} (ok : LineOk t s) {row : List Int} (h : iRead row = .ok u) : LineOk u s := by
  obtain ⟨h1, h2, h3⟩ := read_ok h
  exact ⟨h1, ok.s3, h2, h3, ok.sv⟩
theorem line_step {t : List (Nat × Int)} {s : List Int} {c : IC} (ok : LineOk t s) (h : s.length + samplesOf c ≤ 1000) : LineOk (iAns t s c).2.1 (iAns t s c).2.2 ∧ (iAns t s c).2.2.length ≤ s.length + samplesOf c := by
  cases c with
  | begin_ => exact ⟨line_nil, Nat.zero_le _⟩
  | set row =>
    show LineOk (match iRead row with | .ok u => (.ok [0], u, s) | .error l => (.error l, t, s) : Except (List Int) (List Int) × LineS).2.1 (match iRead row with | .ok u => (.ok [0], u, s) | .error l => (.error l, t, s) : Except (List Int) (List Int) × LineS).2.2 ∧ (match iRead row with | .ok u => (.ok [0], u, s) | .error l => (.error l, t, s) : Except (List Int) (List Int) × LineS).2.2.length ≤ _
    cases e : iRead row with
    | ok u => exact ⟨ok.taps_ e, Nat.le_add_right _ _⟩
    | error l => exact ⟨ok, Nat.le_add_right _ _⟩
  | run row =>
    show LineOk (if samplesOk row = false then (.error [-1], t, s) else (.ok (0 :: iRun t s row), t, s ++ row) : Except (List Int) (List Int) × LineS).2.1 (if samplesOk row = false then (.error [-1], t, s) else (.ok (0 :: iRun t s row), t, s ++ row) : Except (List Int) (List Int) × LineS).2.2 ∧ (if samplesOk row = false then (.error [-1], t, s) else (.ok (0 :: iRun t s row), t, s ++ row) : Except (List Int) (List Int) × LineS).2.2.length ≤ s.length + row.length
    by_cases e : samplesOk row = false
    · rw [if_pos e]
      exact ⟨ok, Nat.le_add_right _ _⟩
    · rw [if_neg e]
      have e : rowOk row = true := by
        show samplesOk row = true
        simpa using e
      exact ⟨line_more ok h e, by rw [List.length_append]; exact Nat.le_refl _⟩
  | delay q a b => exact ⟨ok, Nat.le_add_right _ _⟩
  | taps p e most band rate speed told book => exact ⟨ok, Nat.le_add_right _ _⟩
  | judge row => exact ⟨ok, Nat.le_add_right _ _⟩
  | get => exact ⟨ok, Nat.le_add_right _ _⟩
  | past k => exact ⟨ok, Nat.le_add_right _ _⟩
  | at_ => exact ⟨ok, Nat.le_add_right _ _⟩
  | quiet => exact ⟨ok, Nat.le_add_right _ _⟩
theorem DeskAt.put {K : PySem.W.Frag} {H : Hp} {dk ln lt ls td : Addr} {taps : List (Nat × Int)} {s : List Int} {xs ys : List V} (h : DeskAt K H dk ln lt ls taps s) (g : H td = some (.lst xs)) (n1 : td ≠ lt) (n2 : td ≠ ls) : DeskAt K (upd H td (.lst ys)) dk ln lt ls taps s := by
  obtain ⟨dx, dxl, h1, h2, ⟨ts, h3, h4, h5⟩, h6, h7⟩ := h
  refine ⟨dx, dxl, (upd_ne fun q => by rw [q, g] at h1; cases h1).trans h1, (upd_ne fun q => by rw [q, g] at h2; cases h2).trans h2, ⟨ts, (upd_ne (Ne.symm n1)).trans h3, h4, fun j t p a b => tup_put g (h5 j t p a b)⟩, (upd_ne (Ne.symm n2)).trans h6, h7⟩
section
variable {P : Program} {w : World} {K : PySem.W.Frag} {mg : Str → Option Value} {base : Heap}
/-- the loop over the calls -/
def InvA (K : PySem.W.Frag) (H : Hp) (lc dk td : Addr) (cs : List IC) (m : Nat) (σ : L2.St) (H' : Hp) : Prop := ∃ (done rest : List IC) (st : LineS) (told : List Int) (ln lt ls : Addr) (x4 x5 x6 x7 x8 : Option V), m = rest.length ∧ cs = done ++ rest ∧
  σ = [some (.ref lc), some (.ref dk), some (.ref td), some (.int ((encAll done).length : Nat)), x4, x5, x6, x7, x8] ∧ Same H H' ∧ DeskAt K H' dk ln lt ls st.1 st.2 ∧ (H ln = none ∧ H lt = none ∧ H ls = none) ∧ H' td = some (.lst (told.map V.int)) ∧ (td ≠ lt ∧ td ≠ ls) ∧
  told ++ iTold (iPlay st rest) = iTold (iPlay ([], []) cs) ∧ LineOk st.1 st.2 ∧ st.2.length + (rest.map samplesOf).sum ≤ 1000 ∧ ∀ z r, told = z :: r → 0 ≤ z
def spAnswers (K : PySem.W.Frag) : Sp := fun vs H Q _ => ∃ (lc : Addr) (cs : List IC), vs = [.ref lc] ∧ SqL K H lc ((encAll cs).map V.int) ∧ (encAll cs).length ≤ 100000 ∧ (∀ c ∈ cs, Askd c) ∧ (cs.map samplesOf).sum ≤ 1000 ∧ (iTold (iPlay ([], []) cs)).length ≤ 10000000 ∧
  ∀ (H' : Hp) (td : Addr), Same H H' → H' td = some (.lst ((iTold (iPlay ([], []) cs)).map V.int)) → Q (.ref td) H'
theorem ans_fn (T : Tx K mg base) {fd : FuncData} (F : Fun K "answers" "answers" s_answers (He.ga K "answers") fd) : FnOk P w K mg base CX0 15 (He.ga K "answers") fd ["calls"] (spAnswers K) := by
  refine F.ok sc_answers (fun vs H Q E h => ?_) (fun cdv A outer s H vs Q E hr h => ⟨_, (pss_cons (ps_set (i := 1) sc_answers.nd rfl (Or.inl rfl) (pe_mk0 (ok_Desk_init T) hr (by decide) rfl))
      (pss_cons (ps_set (i := 2) sc_answers.nd rfl (Or.inl rfl) (pe_lst pa_nil))
      (pss_cons (ps_set (i := 3) sc_answers.nd rfl (Or.inl rfl) pe_int)
      (pss_cons (ps_while PassesOwn.never (pt_cmpR op_lt (pv 3) (pe_callB call_len_seq (by rfl) T.n_len PySem.boot_len (pa_cons (pv 0) pa_nil)) (nomark _)) (pss_cons (ps_asg (pe_c (ok_call_at T) hr (by decide) rfl (pa_cons (pv 0) (pa_cons (pv 3) pa_nil))) (pg_tup rfl (pgs_cons (pg_name (i := 4) sc_answers.nd rfl (Or.inl rfl)) (pgs_cons (pg_name (i := 5) sc_answers.nd rfl (Or.inl rfl)) (pgs_cons (pg_name (i := 6) sc_answers.nd rfl (Or.inl rfl)) (pgs_cons (pg_name (i := 7) sc_answers.nd rfl (Or.inl rfl)) pgs_nil))))))
      (pss_cons (ps_set (i := 8) sc_answers.nd rfl (Or.inl rfl) (pe_mt (ok_Desk_called T) hr (by decide) (pv 1) (pa_cons (pv 4) (pa_cons (pv 5) (pa_cons (pv 6) pa_nil)))))
      (pss_cons (ps_expr (pe_bm PySem.F.plainAttrs_list PySem.F.slot_list_append PySem.F.type_list_append mt_append (pv 2) (pa_cons (pe_callB call_len_seq (by rfl) T.n_len PySem.boot_len (pa_cons (pv 8) pa_nil)) pa_nil)))
      (pss_cons (ps_expr (pe_bm PySem.F.plainAttrs_list PySem.F.slot_list_extend PySem.F.type_list_extend mt_extend (pv 2) (pa_cons (pv 8) pa_nil)))
      (pss_one (ps_set (i := 3) sc_answers.nd rfl (Or.inl rfl) (pv 7))))))))
      (pss_one (ps_ret (pv 2))))))), ?_⟩)
  · obtain ⟨lc, cs, rfl, _⟩ := h
    rfl
  · obtain ⟨lc, cs, rfl, hl, big, ask, few, short, k⟩ := h
    walk_at "d"
    repeat walk_at "s"
    refine fun dk dx0 hdk hdx ne => ⟨dk, dx0, rfl, upd_same, fun H1 ln lt ls kp hD nln nlt nls => ⟨rfl, ?_⟩⟩
    have upn : ∀ b, upd (upd H dx0 (.own dk)) dk (.ins (He.ga K "Desk") dx0 []) b = none → H b = none := fun b z => by
      have b1 : b ≠ dk := fun q => by rw [q, upd_same] at z; cases z
      have b2 : b ≠ dx0 := fun q => by rw [q, upd_ne ne, upd_same] at z; cases z
      rw [upd_ne b1, upd_ne b2] at z
      exact z
    have S1 : Same H H1 := fun b u e => by
      have b1 : b ≠ dk := fun q => by rw [q, hdk] at e; cases e
      have b2 : b ≠ dx0 := fun q => by rw [q, hdx] at e; cases e
      exact kp b u b1 ((upd_ne b1).trans ((upd_ne b2).trans e))
    have nln := upn _ nln
    have nlt := upn _ nlt
    have nls := upn _ nls
    clear kp upn
    repeat walk_at "s"
    refine ⟨sz0, fun td htd => ?_⟩
    have S2 := S1.trans (same_new (o := .lst []) htd)
    have hD2 := hD.same (same_new (o := .lst []) htd)
    have gtd : upd H1 td (.lst []) td = some (.lst (([] : List Int).map V.int)) := upd_same
    have ntd := none_of S1 htd
    have tlt : td ≠ lt := fun q => by obtain ⟨_, _, _, _, ⟨_, g, _⟩, _⟩ := hD; rw [q, g] at htd; cases htd
    have tls : td ≠ ls := fun q => by obtain ⟨_, _, _, _, _, g, _⟩ := hD; rw [q, g] at htd; cases htd
    generalize upd H1 td (.lst []) = H2 at *
    clear hD
    repeat walk_at "s"
    refine ⟨InvA K H lc dk td cs, ⟨cs.length, [], cs, ([], []), [], ln, lt, ls, none, none, none, none, none, rfl, rfl, rfl, S2, hD2, ⟨nln, nlt, nls⟩, gtd, ⟨tlt, tls⟩, rfl, line_nil, by simpa using few, fun z r e => nomatch e⟩, ?_⟩
    clear hD2 S2 gtd tlt tls nln nlt nls S1
    rintro m σ H3 ⟨done, rest, st, told, ln, lt, ls, x4, x5, x6, x7, x8, rfl, ecs, rfl, S3, hD3, ⟨nln, nlt, nls⟩, gtd, ⟨tlt, tls⟩, etold, lok, sums, head⟩
    repeat walk_at "s"
    refine ⟨lc, _, rfl, .inl (S3.lst hl), ?_⟩
    rw [List.length_map]
    repeat walk_at "s"
    refine r_iteB (fun c1 => ?_) fun c1 => ?_
    · have c1 := of_decide_eq_true c1
      match rest, ecs, etold, sums with
      | [], ecs, _, _ =>
        rw [ecs, List.append_nil] at c1
        omega
      | c :: rest', ecs, etold, sums =>
      have eall : encAll cs = encAll done ++ (encC c ++ encAll rest') := by
        rw [ecs]
        unfold encAll
        rw [List.flatMap_append, List.flatMap_cons]
      have hc : c ∈ cs := by rw [ecs]; exact List.mem_append_right _ List.mem_cons_self
      have askc := ask c hc
      have sumc : st.2.length + (samplesOf c + (rest'.map samplesOf).sum) ≤ 1000 := sums
      refine ⟨InvA K H lc dk td cs rest'.length, fun σ2 H2 e => ⟨_, Nat.lt_succ_self _, e⟩, ?_⟩
      repeat walk_at "s"
      refine ⟨lc, encAll cs, encAll done, encAll rest', c, rfl, S3.lst hl, eall, big, fun H4 t an ar as S34 gt gan gar al ag => ?_⟩
      have S4 := S3.trans S34
      have hD4 := hD3.same S34
      have gtd4 := S34 _ _ gtd
      have C4 : CallAt K H4 an ar ls c := ⟨SqL.of gan, as, SqL.of gar, al, fun j a row e1 e2 => ⟨SqL.of (ag j a row e1 e2).1, fun q => by
        obtain ⟨_, _, _, _, _, g, _⟩ := hD3
        have := (ag j a row e1 e2).2
        rw [q, g] at this
        cases this⟩⟩
      have I4 : ICOk st.2 c := ⟨askc.rows, fun row e => by
        subst e
        have : samplesOf (.run row) = row.length := rfl
        omega, askc.taps⟩
      clear ag gan gar al S34
      repeat walk_at "s"
      refine DeskAt.meth hD4 ?_
      repeat walk_at "s"
      refine ⟨dk, ln, lt, ls, an, ar, st.1, st.2, c, rfl, hD4, lok, C4, I4, fun H5 D O gD fr => ?_⟩
      obtain ⟨kp, ln', lt', ls', hD5, f1, f2, f3⟩ := O
      have ndk : td ≠ dk := fun q => by obtain ⟨_, _, g, _⟩ := hD4; rw [q, g] at gtd4; cases gtd4
      have ndl : td ≠ ln := fun q => by obtain ⟨_, _, _, g, _⟩ := hD4; rw [q, g] at gtd4; cases gtd4
      have gtd5 := kp _ _ ndk ndl tls gtd4
      have S5 : Same H H5 := fun b u e => kp b u (fun q => by rw [q, hdk] at e; cases e) (fun q => by rw [q, nln] at e; cases e) (fun q => by rw [q, nls] at e; cases e) (S4 _ _ e)
      have lstep := line_step (c := c) lok (by omega)
      have eplay : iPlay st (c :: rest') = ansOf (iAns st.1 st.2 c).1 :: iPlay (iAns st.1 st.2 c).2 rest' := rfl
      have etold2 : told ++ (((ansOf (iAns st.1 st.2 c).1).length : Int) :: ansOf (iAns st.1 st.2 c).1) ++ iTold (iPlay (iAns st.1 st.2 c).2 rest') = iTold (iPlay ([], []) cs) := by
        rw [← etold, eplay]
        unfold iTold
        rw [List.flatMap_cons, List.append_assoc]
      have tl : told.length + 1 + (ansOf (iAns st.1 st.2 c).1).length ≤ 10000000 := by
        rw [← etold2, List.length_append, List.length_append, List.length_cons] at short
        omega
      have nD : D ≠ td := fun q => by
        rcases fr with fr | ⟨z, r, e, neg⟩
        · rw [q, gtd4] at fr; cases fr
        · rw [q, gtd5] at gD
          have e2 : told.map V.int = (ansOf (iAns st.1 st.2 c).1).map V.int := HO.lst.inj (Option.some.inj gD)
          rw [e] at e2
          cases told with
          | nil => cases e2
          | cons z' r' =>
            have := head z' r' rfl
            have : z' = z := V.int.inj (List.cons.inj e2).1
            omega
      have n1 : H ln' = none := f1.elim (fun e => by rw [e]; exact nln) fun e => none_of S4 e
      have n2 : H lt' = none := f2.elim (fun e => by rw [e]; exact nlt) fun e => none_of S4 e
      have n3 : H ls' = none := f3.elim (fun e => by rw [e]; exact nls) fun e => none_of S4 e
      have tlt' : td ≠ lt' := f2.elim (fun e => by rw [e]; exact tlt) fun e q => by rw [← q, gtd4] at e; cases e
      have tls' : td ≠ ls' := f3.elim (fun e => by rw [e]; exact tls) fun e q => by rw [← q, gtd4] at e; cases e
      clear kp f1 f2 f3 fr hD4 hD3 C4 I4
      generalize ansOf (iAns st.1 st.2 c).1 = ans at *
      generalize (iAns st.1 st.2 c).2 = st' at *
      repeat walk_at "s"
      refine ⟨tyl gtd5, ?_⟩
      repeat walk_at "s"
      refine ⟨D, _, rfl, .inl (SqL.of gD), ?_⟩
      rw [List.length_map]
      repeat walk_at "s"
      refine ⟨td, _, _, rfl, rfl, gtd5, by rw [List.length_map]; exact Nat.lt_of_lt_of_le (show told.length < 10000001 by omega) (by decide), ?_⟩
      have e6 : told.map V.int ++ [V.int ((ans.length : Nat) : Int)] = (told ++ [((ans.length : Nat) : Int)]).map V.int := by rw [List.map_append]; rfl
      rw [e6]
      have S6 : Same H (upd H5 td (.lst ((told ++ [((ans.length : Nat) : Int)]).map V.int))) := same_put S5 ntd
      have hD6 := hD5.put (ys := (told ++ [((ans.length : Nat) : Int)]).map V.int) gtd5 tlt' tls'
      have gtd6 : upd H5 td (.lst ((told ++ [((ans.length : Nat) : Int)]).map V.int)) td = some (.lst ((told ++ [((ans.length : Nat) : Int)]).map V.int)) := upd_same
      have gD6 : upd H5 td (.lst ((told ++ [((ans.length : Nat) : Int)]).map V.int)) D = some (.lst (ans.map V.int)) := (upd_ne nD).trans gD
      generalize upd H5 td (.lst ((told ++ [((ans.length : Nat) : Int)]).map V.int)) = H6 at *
      clear hD5 gtd5 gD
      repeat walk_at "s"
      refine ⟨tyl gtd6, ?_⟩
      repeat walk_at "s"
      refine ⟨td, D, _, _, rfl, rfl, gtd6, gD6, Nat.le_trans (show _ ≤ 10000000 by rw [List.length_map, List.length_map, List.length_append]; show told.length + 1 + ans.length ≤ _; omega) (by decide), ?_⟩
      have e7 : (told ++ [((ans.length : Nat) : Int)]).map V.int ++ ans.map V.int = (told ++ (((ans.length : Nat) : Int) :: ans)).map V.int := by rw [← List.map_append, List.append_assoc]; rfl
      rw [e7]
      repeat walk_at "s"
      refine ⟨done ++ [c], rest', st', told ++ (((ans.length : Nat) : Int) :: ans), ln', lt', ls', some (.int (c.place : Nat)), some (.ref an), some (.ref ar), some (.int (((encAll done).length + (encC c).length : Nat) : Int)), some (.ref D), rfl, by rw [ecs, List.append_assoc]; rfl, ?_, same_put S6 ntd, hD6.put gtd6 tlt' tls', ⟨n1, n2, n3⟩, upd_same, ⟨tlt', tls'⟩, etold2, lstep.1, by have := lstep.2; omega, fun z r e => ?_⟩
      · have ed : (encAll (done ++ [c])).length = (encAll done).length + (encC c).length := by
          unfold encAll
          rw [List.flatMap_append, List.length_append]
          simp
        rw [ed]
        rfl
      · cases told with
        | nil =>
          have := (List.cons.inj e).1
          omega
        | cons z' r' =>
          have := (List.cons.inj e).1
          have := head z' r' rfl
          omega
    · have c1 := of_decide_eq_false c1
      match rest, ecs, etold, sums with
      | c :: rest', ecs, etold, _ =>
        exfalso
        have eall : encAll cs = encAll done ++ (encC c ++ encAll rest') := by
          rw [ecs]
          unfold encAll
          rw [List.flatMap_append, List.flatMap_cons]
        have : 0 < (encC c).length := by unfold encC; rw [List.length_cons]; omega
        rw [eall, List.length_append, List.length_append] at c1
        omega
      | [], ecs, etold, _ =>
        repeat walk_at "s"
        have etold : told ++ [] = iTold (iPlay ([], []) cs) := etold
        rw [List.append_nil] at etold
        exact k _ td S3 (by rw [← etold]; exact gtd)
end
end Rt
set_option Elab.async false
set_option linter.all false
namespace Rt
/-! # The calls that a list tells -/
theorem row_enc {s x t : List Int} (h : PyFlat.row s = some (x, t)) : s = ((x.length : Nat) : Int) :: (x ++ t) := by
  cases s with
  | nil => cases h
  | cons n r =>
    have h : (if 0 ≤ n ∧ n.toNat ≤ r.length then some (r.take n.toNat, r.drop n.toNat) else none) = some (x, t) := h
    split at h
    · rename_i c
      obtain ⟨h1, h2⟩ := Prod.mk.inj (Option.some.inj h)
      subst h1 h2
      rw [List.take_append_drop, List.length_take, Nat.min_eq_left c.2, Int.toNat_of_nonneg c.1]
    · cases h
theorem rows_enc : ∀ (k : Nat) (s t : List Int) (xs : List (List Int)), PyFlat.rows k s = some (xs, t) → xs.length = k ∧ s = encRows xs ++ t
  | 0, s, t, xs, h => by
    have h : some ([], s) = some (xs, t) := h
    cases h
    exact ⟨rfl, rfl⟩
  | k + 1, s, t, xs, h => by
    have h : (match PyFlat.row s with | none => none | some (x, s') => match PyFlat.rows k s' with | none => none | some (ys, t') => some (x :: ys, t')) = some (xs, t) := h
    cases e1 : PyFlat.row s with
    | none => rw [e1] at h; cases h
    | some p =>
      obtain ⟨x, s'⟩ := p
      rw [e1] at h
      dsimp only at h
      cases e2 : PyFlat.rows k s' with
      | none => rw [e2] at h; cases h
      | some p =>
        obtain ⟨ys, t'⟩ := p
        rw [e2] at h
        cases h
        obtain ⟨h1, h2⟩ := rows_enc k s' t ys e2
        refine ⟨by rw [List.length_cons, h1], ?_⟩
        rw [row_enc e1, h2]
        unfold encRows
        rw [List.flatMap_cons]
        simp
def encRaw : List (List Int) → List Int
  | h :: rows => h ++ encRows rows
  | [] => []
/-- a call as it was cut: its numbers, its rows, as many as its place has -/
def Shaped (c : List (List Int)) : Prop := ∃ (p : Int) (nums : List Int) (rows : List (List Int)), c = (p :: nums) :: rows ∧ PyYqbeda.shape p = some (nums.length, rows.length)
theorem call_enc {s t : List Int} {c : List (List Int)} (h : PyFlat.call PyYqbeda.shape s = some (c, t)) : Shaped c ∧ s = encRaw c ++ t := by
  cases s with
  | nil => cases h
  | cons p r =>
    have h : (match PyYqbeda.shape p with | none => none | some (n, k) => if r.length < n then none else match PyFlat.rows k (r.drop n) with | none => none | some (xs, t) => some ((p :: r.take n) :: xs, t)) = some (c, t) := h
    cases e : PyYqbeda.shape p with
    | none => rw [e] at h; cases h
    | some q =>
      obtain ⟨n, k⟩ := q
      rw [e] at h
      dsimp only at h
      split at h
      · cases h
      · rename_i big
        cases e2 : PyFlat.rows k (r.drop n) with
        | none => rw [e2] at h; cases h
        | some q =>
          obtain ⟨xs, t'⟩ := q
          rw [e2] at h
          cases h
          obtain ⟨h1, h2⟩ := rows_enc _ _ _ _ e2
          refine ⟨⟨p, r.take n, xs, rfl, ?_⟩, ?_⟩
          · rw [List.length_take, Nat.min_eq_left (by omega), h1]
            exact e
          · show p :: r = (p :: r.take n) ++ encRows xs ++ t
            rw [List.append_assoc, ← h2, List.cons_append, List.take_append_drop]
theorem calls_enc : ∀ (f : Nat) (l : List Int) (raw : List (List (List Int))), PyFlat.calls PyYqbeda.shape f l = some raw → l = raw.flatMap encRaw ∧ ∀ c ∈ raw, Shaped c
  | f, [], raw, h => by
    have h : some [] = some raw := by cases f <;> exact h
    cases h
    exact ⟨rfl, fun c hc => by simp at hc⟩
  | 0, _ :: _, raw, h => by cases h
  | f + 1, p :: r, raw, h => by
    have h : (match PyFlat.call PyYqbeda.shape (p :: r) with | none => none | some (c, t) => match PyFlat.calls PyYqbeda.shape f t with | none => none | some cs => some (c :: cs)) = some raw := h
    cases e1 : PyFlat.call PyYqbeda.shape (p :: r) with
    | none => rw [e1] at h; cases h
    | some q =>
      obtain ⟨c, t⟩ := q
      rw [e1] at h
      dsimp only at h
      cases e2 : PyFlat.calls PyYqbeda.shape f t with
      | none => rw [e2] at h; cases h
      | some cs =>
        rw [e2] at h
        cases h
        obtain ⟨h1, h2⟩ := call_enc e1
        obtain ⟨h3, h4⟩ := calls_enc f t cs e2
        refine ⟨?_, fun d hd => ?_⟩
        · rw [List.flatMap_cons, ← h3]
          exact h2
        · rcases List.mem_cons.mp hd with e | hd
          · rw [e]; exact h1
          · exact h4 d hd
def rawOf (c : IC) : List (List Int) := ((c.place : Int) :: c.nums) :: c.rows
theorem encRaw_of (c : IC) : encRaw (rawOf c) = encC c := by
  show ((c.place : Int) :: c.nums) ++ encRows c.rows = (c.place : Int) :: (c.nums ++ encRows c.rows)
  rw [List.cons_append]
theorem whole_id (c : List (List Int)) : PyYqbeda.whole c = c := by
  unfold PyYqbeda.whole
  split <;> rfl
theorem len0 {l : List Int} (h : l.length = 0) : l = [] := List.length_eq_zero_iff.mp h
theorem len1 {α : Type} {l : List α} (h : l.length = 1) : ∃ a, l = [a] := List.length_eq_one_iff.mp h
/-- what a call may be, of ours -/
structure Fits (c : IC) : Prop where
  ok : TapsOk c
  few : ∀ p e most band rate speed told book, c = .taps p e most band rate speed told book → (-9223372036854775808 ≤ p.x ∧ p.x ≤ 9223372036854775807) ∧ (-9223372036854775808 ≤ p.y ∧ p.y ≤ 9223372036854775807) ∧ (-9223372036854775808 ≤ p.z ∧ p.z ≤ 9223372036854775807) ∧
    (-9223372036854775808 ≤ e.x ∧ e.x ≤ 9223372036854775807) ∧ (-9223372036854775808 ≤ e.y ∧ e.y ≤ 9223372036854775807) ∧ (-9223372036854775808 ≤ e.z ∧ e.z ≤ 9223372036854775807) ∧ (most ≤ 4 → (tellN told + 2) ^ most ≤ TaNeutral.looksAt (rawOf c))
theorem TapsOk.no {c : IC} (h : ∀ p e most band rate speed told book, c ≠ .taps p e most band rate speed told book) : TapsOk c := fun p e most band rate speed told book q => absurd q (h _ _ _ _ _ _ _ _)
theorem Fits.no {c : IC} (h : ∀ p e most band rate speed told book, c ≠ .taps p e most band rate speed told book) : Fits c := ⟨TapsOk.no h, fun p e most band rate speed told book q => absurd q (h _ _ _ _ _ _ _ _)⟩
theorem shape_case {p : Int} {n k : Nat} (h : PyYqbeda.shape p = some (n, k)) : (p = 1 ∧ n = 3 ∧ k = 0) ∨ (p = 2 ∧ n = 10 ∧ k = 2) ∨ (p = 3 ∧ n = 0 ∧ k = 1) ∨ (p = 4 ∧ n = 0 ∧ k = 0) ∨ (p = 5 ∧ n = 0 ∧ k = 1) ∨ (p = 6 ∧ n = 0 ∧ k = 0) ∨ (p = 7 ∧ n = 0 ∧ k = 1) ∨ (p = 8 ∧ n = 1 ∧ k = 0) ∨ (p = 9 ∧ n = 0 ∧ k = 0) ∨ (p = 10 ∧ n = 0 ∧ k = 0) := by
  unfold PyYqbeda.shape at h
  by_cases c1 : p = 1
  · rw [if_pos c1] at h; cases h; exact .inl ⟨c1, rfl, rfl⟩
  rw [if_neg c1] at h
  by_cases c2 : p = 2
  · rw [if_pos c2] at h; cases h; exact .inr (.inl ⟨c2, rfl, rfl⟩)
  rw [if_neg c2] at h
  by_cases c3 : p = 3
  · rw [if_pos c3] at h; cases h; exact .inr (.inr (.inl ⟨c3, rfl, rfl⟩))
  rw [if_neg c3] at h
  by_cases c4 : p = 4
  · rw [if_pos c4] at h; cases h; exact .inr (.inr (.inr (.inl ⟨c4, rfl, rfl⟩)))
  rw [if_neg c4] at h
  by_cases c5 : p = 5
  · rw [if_pos c5] at h; cases h; exact .inr (.inr (.inr (.inr (.inl ⟨c5, rfl, rfl⟩))))
  rw [if_neg c5] at h
  by_cases c6 : p = 6
  · rw [if_pos c6] at h; cases h; exact .inr (.inr (.inr (.inr (.inr (.inl ⟨c6, rfl, rfl⟩)))))
  rw [if_neg c6] at h
  by_cases c7 : p = 7
  · rw [if_pos c7] at h; cases h; exact .inr (.inr (.inr (.inr (.inr (.inr (.inl ⟨c7, rfl, rfl⟩))))))
  rw [if_neg c7] at h
  by_cases c8 : p = 8
  · rw [if_pos c8] at h; cases h; exact .inr (.inr (.inr (.inr (.inr (.inr (.inr (.inl ⟨c8, rfl, rfl⟩)))))))
  rw [if_neg c8] at h
  by_cases c9 : p = 9
  · rw [if_pos c9] at h; cases h; exact .inr (.inr (.inr (.inr (.inr (.inr (.inr (.inr (.inl ⟨c9, rfl, rfl⟩))))))))
  rw [if_neg c9] at h
  by_cases c10 : p = 10
  · rw [if_pos c10] at h; cases h; exact .inr (.inr (.inr (.inr (.inr (.inr (.inr (.inr (.inr ⟨c10, rfl, rfl⟩))))))))
  rw [if_neg c10] at h
  cases h
theorem zero_of {l : List Int} (h : TaNeutral.fromZero l = true) : ∀ x ∈ l, 0 ≤ x := fun x hx => by
  unfold TaNeutral.fromZero at h
  exact of_decide_eq_true (List.all_eq_true.mp h x hx)
/-- a call of ours for what was cut -/
theorem ic_of {c : List (List Int)} (sh : Shaped c) (ask : TaNeutral.asked1 c = true) (ins : PyInside.call PyYqbeda.bound c = true) : ∃ ic : IC, c = rawOf ic ∧ TaNeutral.callOf c = some (specIC ic) ∧ Fits ic ∧ TaNeutral.samplesIn c = samplesOf ic := by
  obtain ⟨p, nums, rows, rfl, sh⟩ := sh
  rcases shape_case sh with ⟨rfl, h1, h2⟩ | ⟨rfl, h1, h2⟩ | ⟨rfl, h1, h2⟩ | ⟨rfl, h1, h2⟩ | ⟨rfl, h1, h2⟩ | ⟨rfl, h1, h2⟩ | ⟨rfl, h1, h2⟩ | ⟨rfl, h1, h2⟩ | ⟨rfl, h1, h2⟩ | ⟨rfl, h1, h2⟩
  · have hr : rows = [] := List.length_eq_zero_iff.mp h2
    subst hr
    match nums, h1 with
    | [q, a, b], _ =>
      have ask : (decide (0 ≤ q) && decide (0 ≤ a) && decide (0 ≤ b)) = true := ask
      simp only [Bool.and_eq_true, decide_eq_true_eq] at ask
      refine ⟨.delay q.toNat a.toNat b.toNat, ?_, ?_, Fits.no (fun _ _ _ _ _ _ _ _ z => nomatch z), rfl⟩
      · show [[1, q, a, b]] = [[1, ((q.toNat : Nat) : Int), ((a.toNat : Nat) : Int), ((b.toNat : Nat) : Int)]]
        rw [Int.toNat_of_nonneg ask.1.1, Int.toNat_of_nonneg ask.1.2, Int.toNat_of_nonneg ask.2]
      · show (if TaNeutral.fromZero [q, a, b] = true then some (Ta.Call.delay q.toNat a.toNat b.toNat) else none) = _
        rw [if_pos (by unfold TaNeutral.fromZero; simp [ask.1.1, ask.1.2, ask.2])]
        rfl
  · match nums, h1, rows, h2 with
    | [x, y, z, u, v, t, m, k, a, b], _, [r, c], _ =>
      have ask : (decide (0 ≤ m) && decide (0 ≤ k) && decide (0 ≤ a) && decide (0 ≤ b) && c.all (fun (z : Int) => decide (0 ≤ z))) = true := ask
      simp only [Bool.and_eq_true, decide_eq_true_eq] at ask
      obtain ⟨⟨⟨⟨hm, hk⟩, ha⟩, hb⟩, hc⟩ := ask
      have hcz : ∀ w ∈ c, 0 ≤ w := fun w hw => of_decide_eq_true (List.all_eq_true.mp hc w hw)
      have ins : (PyInside.each (PyYqbeda.bound 2).1 [x, y, z, u, v, t, m, k, a, b] && PyInside.lists (PyYqbeda.bound 2).2 [r, c]) = true := ins
      have ins := (Bool.and_eq_true_iff.mp ins).1
      have eb : (PyYqbeda.bound 2).1 = [(-9223372036854775808, 9223372036854775807), (-9223372036854775808, 9223372036854775807), (-9223372036854775808, 9223372036854775807), (-9223372036854775808, 9223372036854775807), (-9223372036854775808, 9223372036854775807), (-9223372036854775808, 9223372036854775807), (0, 9223372036854775807), (0, 9223372036854775807), (0, 9223372036854775807), (0, 9223372036854775807)] := by decide
      rw [eb] at ins
      simp only [PyInside.each, PyInside.within, Bool.and_eq_true, decide_eq_true_eq] at ins
      obtain ⟨i1, i2, i3, i4, i5, i6, _⟩ := ins
      have eraw : [[2, x, y, z, u, v, t, m, k, a, b], r, c] = rawOf (.taps ⟨x, y, z, 1⟩ ⟨u, v, t, 1⟩ m.toNat k.toNat a.toNat b.toNat r c) := by
        show _ = [[2, x, y, z, u, v, t, ((m.toNat : Nat) : Int), ((k.toNat : Nat) : Int), ((a.toNat : Nat) : Int), ((b.toNat : Nat) : Int)], r, c]
        rw [Int.toNat_of_nonneg hm, Int.toNat_of_nonneg hk, Int.toNat_of_nonneg ha, Int.toNat_of_nonneg hb]
      refine ⟨.taps ⟨x, y, z, 1⟩ ⟨u, v, t, 1⟩ m.toNat k.toNat a.toNat b.toNat r c, eraw, ?_, ⟨?_, ?_⟩, rfl⟩
      · show (if TaNeutral.fromZero ([m, k, a, b] ++ c) = true then some (Ta.Call.taps ⟨x, y, z⟩ ⟨u, v, t⟩ m.toNat k.toNat a.toNat b.toNat r (TaNeutral.nats c)) else none) = _
        rw [if_pos (by unfold TaNeutral.fromZero; rw [List.all_append, Bool.and_eq_true]; exact ⟨by simp [hm, hk, ha, hb], hc⟩)]
        rfl
      · intro p e most band rate speed told book q
        cases q
        exact ⟨rfl, rfl, hcz⟩
      · intro p e most band rate speed told book q
        rw [← eraw]
        cases q
        refine ⟨i1, i2, i3, i4, i5, i6, fun h4 => ?_⟩
        show _ ≤ TaNeutral.rowsOf r m
        unfold TaNeutral.rowsOf
        rw [if_pos ⟨hm, by omega⟩]
        exact Nat.le_refl _
  · have hn := len0 h1
    obtain ⟨r, hr⟩ := len1 h2
    subst hn hr
    exact ⟨.judge r, rfl, rfl, Fits.no (fun _ _ _ _ _ _ _ _ z => nomatch z), rfl⟩
  · have hn := len0 h1
    have hr : rows = [] := List.length_eq_zero_iff.mp h2
    subst hn hr
    exact ⟨.begin_, rfl, rfl, Fits.no (fun _ _ _ _ _ _ _ _ z => nomatch z), rfl⟩
  · have hn := len0 h1
    obtain ⟨r, hr⟩ := len1 h2
    subst hn hr
    exact ⟨.set r, rfl, rfl, Fits.no (fun _ _ _ _ _ _ _ _ z => nomatch z), rfl⟩
  · have hn := len0 h1
    have hr : rows = [] := List.length_eq_zero_iff.mp h2
    subst hn hr
    exact ⟨.get, rfl, rfl, Fits.no (fun _ _ _ _ _ _ _ _ z => nomatch z), rfl⟩
  · have hn := len0 h1
    obtain ⟨r, hr⟩ := len1 h2
    subst hn hr
    exact ⟨.run r, rfl, rfl, Fits.no (fun _ _ _ _ _ _ _ _ z => nomatch z), rfl⟩
  · have hr : rows = [] := List.length_eq_zero_iff.mp h2
    obtain ⟨k, hn⟩ := len1 h1
    subst hn hr
    have ask : decide (0 ≤ k) = true := ask
    have ask := of_decide_eq_true ask
    refine ⟨.past k.toNat, ?_, ?_, Fits.no (fun _ _ _ _ _ _ _ _ z => nomatch z), rfl⟩
    · show [[8, k]] = [[8, ((k.toNat : Nat) : Int)]]
      rw [Int.toNat_of_nonneg ask]
    · show (if 0 ≤ k then some (Ta.Call.past k.toNat) else none) = _
      rw [if_pos ask]
      rfl
  · have hn := len0 h1
    have hr : rows = [] := List.length_eq_zero_iff.mp h2
    subst hn hr
    exact ⟨.at_, rfl, rfl, Fits.no (fun _ _ _ _ _ _ _ _ z => nomatch z), rfl⟩
  · have hn := len0 h1
    have hr : rows = [] := List.length_eq_zero_iff.mp h2
    subst hn hr
    exact ⟨.quiet, rfl, rfl, Fits.no (fun _ _ _ _ _ _ _ _ z => nomatch z), rfl⟩
/-- all of them -/
theorem ics_of : ∀ raw : List (List (List Int)), (∀ c ∈ raw, Shaped c) → (∀ c ∈ raw, TaNeutral.asked1 c = true) → (∀ c ∈ raw, PyInside.call PyYqbeda.bound c = true) → ∃ cs : List IC, raw = cs.map rawOf ∧ (∀ c ∈ cs, TaNeutral.callOf (rawOf c) = some (specIC c) ∧ Fits c) ∧ raw.map TaNeutral.samplesIn = cs.map samplesOf
  | [], _, _, _ => ⟨[], rfl, fun c hc => by simp at hc, rfl⟩
  | c :: raw, h1, h2, h3 => by
    obtain ⟨ic, e1, e2, e3, e4⟩ := ic_of (h1 c List.mem_cons_self) (h2 c List.mem_cons_self) (h3 c List.mem_cons_self)
    obtain ⟨cs, g1, g2, g3⟩ := ics_of raw (fun d hd => h1 d (List.mem_cons_of_mem _ hd)) (fun d hd => h2 d (List.mem_cons_of_mem _ hd)) (fun d hd => h3 d (List.mem_cons_of_mem _ hd))
    refine ⟨ic :: cs, by rw [List.map_cons, ← e1, ← g1], fun d hd => ?_, by rw [List.map_cons, List.map_cons, e4, g3]⟩
    rcases List.mem_cons.mp hd with e | hd
    · rw [e]
      exact ⟨e1 ▸ e2, e3⟩
    · exact g2 d hd
theorem play_at : ∀ (cs : List IC) (st : LineS) (w : Ta.State), Rl st w → (∀ c ∈ cs, TaNeutral.callOf (rawOf c) = some (specIC c) ∧ Fits c) → PyFlat.played TaNeutral.step w (cs.map rawOf) = iPlay st cs
  | [], _, _, _, _ => rfl
  | c :: cs, st, w, R, h => by
    obtain ⟨h1, h2⟩ := h c List.mem_cons_self
    obtain ⟨s1, s2⟩ := step_at R h2.ok
    have es : TaNeutral.step w (rawOf c) = ((Ta.step w (specIC c)).1, TaNeutral.told (Ta.step w (specIC c)).2) := by
      unfold TaNeutral.step
      rw [h1]
    show (TaNeutral.step w (rawOf c)).2 :: PyFlat.played TaNeutral.step (TaNeutral.step w (rawOf c)).1 (cs.map rawOf) = ansOf (iAns st.1 st.2 c).1 :: iPlay (iAns st.1 st.2 c).2 cs
    rw [es, ← s1, play_at cs _ _ s2 fun d hd => h d (List.mem_cons_of_mem _ hd)]
theorem le_sum_of_mem : ∀ {l : List Nat} {x : Nat}, x ∈ l → x ≤ l.sum
  | y :: l, x, h => by
    rw [List.sum_cons]
    rcases List.mem_cons.mp h with e | h
    · omega
    · have := le_sum_of_mem h
      omega
theorem mem_len {l : List Int} {cs : List IC} (e : l = encAll cs) {c : IC} (hc : c ∈ cs) {row : List Int} (hr : row ∈ c.rows) : row.length ≤ l.length := by
  subst e
  obtain ⟨a, b, rfl⟩ := List.append_of_mem hc
  obtain ⟨a2, b2, e2⟩ := List.append_of_mem hr
  unfold encAll
  rw [List.flatMap_append, List.flatMap_cons]
  unfold encC encRows
  rw [e2, List.flatMap_append, List.flatMap_cons]
  simp only [List.length_append, List.length_cons]
  omega
/-- what the plain law has to tell -/
def Plain (l : List Int) : Prop := ∃ cs : List IC, l = encAll cs ∧ (∀ c ∈ cs, Askd c) ∧ (cs.map samplesOf).sum ≤ 1000 ∧ (iTold (iPlay ([], []) cs)).length ≤ 10000000 ∧ iTold (iPlay ([], []) cs) = PyYqbeda.answers l
theorem plain_law (l : List Int) (big : l.length ≤ 16000) (ask : PyYqbeda.answers_asked l = true) : Plain l := by
  have ans : ∀ raw, PyFlat.calls PyYqbeda.shape l.length l = some raw → PyYqbeda.answers l = PyFlat.told (PyFlat.played TaNeutral.step TaNeutral.start raw) := fun raw e => by
    unfold PyYqbeda.answers PyYqbeda.calls
    rw [e]
    show PyFlat.told (PyFlat.played TaNeutral.step TaNeutral.start (raw.map PyYqbeda.whole)) = _
    rw [show raw.map PyYqbeda.whole = raw from (List.map_congr_left fun c _ => whole_id c).trans (List.map_id'' (fun _ => rfl) raw)]
  unfold PyYqbeda.answers_asked at ask
  cases e : PyFlat.calls PyYqbeda.shape l.length l with
  | none => rw [e] at ask; cases ask
  | some raw =>
    rw [e] at ask
    dsimp only at ask
    simp only [Bool.and_eq_true] at ask
    obtain ⟨⟨⟨⟨_, _⟩, ins⟩, asked⟩, short⟩ := ask
    rw [show raw.map PyYqbeda.whole = raw from (List.map_congr_left fun c _ => whole_id c).trans (List.map_id'' (fun _ => rfl) raw)] at asked
    unfold TaNeutral.asked at asked
    simp only [Bool.and_eq_true, decide_eq_true_eq] at asked
    obtain ⟨a1, _, _, _, a5, a6⟩ := asked
    obtain ⟨h1, h2⟩ := calls_enc _ _ _ e
    unfold PyInside.calls at ins
    obtain ⟨cs, g1, g2, g3⟩ := ics_of raw h2 (fun c hc => List.all_eq_true.mp a1 c hc) (fun c hc => List.all_eq_true.mp ins c hc)
    have el : l = encAll cs := by
      rw [h1, g1, List.flatMap_map]
      unfold encAll
      congr 1
    have ea : iTold (iPlay ([], []) cs) = PyYqbeda.answers l := by
      rw [ans raw e, g1, play_at cs ([], []) TaNeutral.start ⟨rfl, rfl⟩ g2]
      rfl
    refine ⟨cs, el, fun c hc => ?_, by rw [← g3]; omega, ?_, ea⟩
    · obtain ⟨_, ft⟩ := g2 c hc
      refine ⟨fun row hr => Nat.le_trans (mem_len el hc hr) (by omega), fun p e most band rate speed told book q => ?_⟩
      obtain ⟨t1, t2, t3⟩ := ft.ok p e most band rate speed told book q
      obtain ⟨b1, b2, b3, b4, b5, b6, b7⟩ := ft.few p e most band rate speed told book q
      have bd : ∀ z : Int, -9223372036854775808 ≤ z ∧ z ≤ 9223372036854775807 → Bd 100 z := fun z hz => ⟨by
        have e100 : (2 : Nat) ^ 100 = 1267650600228229401496703205376 := by decide
        omega⟩
      have one : Bd 100 1 := ⟨by decide⟩
      refine ⟨t1, t2, ⟨bd _ b1, bd _ b2, bd _ b3, by rw [t1]; exact one⟩, ⟨bd _ b4, bd _ b5, bd _ b6, by rw [t2]; exact one⟩, t3, fun h4 => ?_⟩
      refine Nat.le_trans (b7 h4) (Nat.le_trans (le_sum_of_mem ?_) a6)
      rw [g1]
      exact List.mem_map.mpr ⟨rawOf c, List.mem_map.mpr ⟨c, hc, rfl⟩, rfl⟩
    · rw [ea]
      unfold PyFlat.short at short
      exact of_decide_eq_true short
end Rt
set_option Elab.async false
set_option linter.all false
set_option maxRecDepth 100000
set_option maxHeartbeats 4000000
namespace Rt
open PySem PySem.Spec PyProof.Rows L2
open C8 (Cal Met Mak pe_c pe_mk pe_mt pe_mt0 pe_gc)
open PySem.W (OpenSpec Codec WData)
/-- a Spec row from the promise of its def, the written part found in what the top leaves -/
theorem walk_specE {r : OpenSpec} {k : Nat} {q : Program} {loose : List Str} {XP : (Str → Option Value) → Heap → Prop} {YP : World → Heap → Prop} {d : DefRec} {ps : List Str}
    (well : r.wellSaid = true) (nodef : d.params.defaults = []) (len : r.args.length = ps.length) (room : L2.Room k callerA)
    (F : ∀ (w : World) (mg : Str → Option Value) (fa : Addr) (h : Heap), YP w h → h.Ns mainGlobals mg → mg d.name = some (.ref fa) → ∃ (K : PySem.W.Frag) (fd : FuncData) (sp : Sp), K.In h ∧ (∀ (s : Shared) (us : List Value), us.length = ps.length → BindsTo s fd ⟨us, []⟩ (ps.zip us)) ∧
      (∀ (H : Hp) (xs : List V) (a : Codec.denoteAll r.args), OnlyF H → Codec.withinAll r.args a = true → Codec.app r.args r.asked a = true → DwAll K H xs (Codec.encAll r.args a) → sp xs H (fun v H' => Dw K H' v (r.ret.enc (Codec.app r.args r.f a))) fun _ _ _ => False) ∧
      ∀ base : Heap, K.In base → base.Ns mainGlobals mg → FnOk r.prog w K mg base CX0 k fa fd ps sp) :
    PySem.W.WalkOS q loose XP YP r d [] (fun f vs => PySem.call f vs) := by
  intro w s₀ s₁ mg mb G Y fa o pm cd doc dV kV ho hd hcd hD hmg hg args vals as pre lay rd wl lo
  obtain ⟨a, e1, asked⟩ := PySem.W.os_pre_some pre
  obtain ⟨e3, within⟩ := Codec.encAll_of_decAll r.args args a e1
  subst e3
  obtain ⟨K, fd, sp, KX, bnd, hsp, hF⟩ := F w mg fa _ Y G.T.g hmg
  refine PySem.W.enter_call (codeAny_mono (spec_call (R := []) (cl := classAt s₀.heap) (d0 := r.ret.enc (Codec.app r.args r.f a)) KX G.T.g G.T.b G.T.builtins G.T.nolimit hg wl (pl_encAll _ _) (layable_weight lay) room hF bnd (by rw [encAll_len]; exact len)
    (fun H xs hO hS => hsp H xs a hO within asked hS) fun H e s' z => z) fun r' s' y => ?_)
  obtain ⟨u, as', rfl, h1, h2, h3, h4⟩ := y
  exact ⟨.inl ⟨u, _, as', rfl, fun _ => rfl, h1, (OpenSpec.post_iff well within _ _).mpr rfl, fun z => Bool.noConfusion (show false = true from z)⟩, h2, h3, h4⟩
theorem len_of {lo hi : Int} {a : List Int × Unit} (h : Codec.withinAll [.list 0 16000 (.int lo hi)] a = true) : a.1.length ≤ 16000 := by
  have h : ((Codec.list 0 16000 (.int lo hi)).within a.1 && Codec.withinAll [] a.2) = true := h
  have h := (Bool.and_eq_true_iff.mp h).1
  unfold Codec.within Codec.inList Codec.inLen Codec.inNat at h
  simp only [Bool.and_eq_true, decide_eq_true_eq] at h
  omega
end Rt
open PySem PySem.W PySem.Calls PyProof.Rows in
theorem PySem.Challenge.cw_roomtaps_s01_answers_holds : PySem.Challenge.rw_roomtaps_s01_answers.Holds := by
  refine HandSHeadRun.head_spec (r := PySem.Challenge.rw_roomtaps_s01_answers) (q := Rt.qv) (H := Rt.hk) (ob := Rt.ob) (M := 4000) (loose := Rt.loose) (kwd := []) Rt.ob_eq Rt.en_open Rt.en_fence (fun w os => Rt.run w os) (by rfl) (by rfl) (by rfl) os_shapes Rt.en_well Rt.en_ok Rt.en_bare Rt.en_pre ?call
  case call =>
    refine Rt.walk_specE (k := 15) (ps := ["calls"]) Rt.en_well rfl rfl ⟨by decide, by decide, by decide⟩ ?F
    intro w mg fa h Y G hmg
    obtain ⟨K, hK, sr⟩ := Y
    have T : Rt.Tx K mg h := ⟨sr, hK, G⟩
    have e : fa = He.ga K "answers" := by
      have z := T.g_answers
      rw [show mg "answers" = some (.ref fa) from hmg] at z
      exact Value.ref.inj (Option.some.inj z)
    subst e
    obtain ⟨fd, F⟩ := T.f_answers
    refine ⟨K, fd, Rt.spAnswers K, hK, ?_, ?_, fun base hB G2 => Rt.ans_fn ⟨sr, hB, G2⟩ F⟩
    · obtain ⟨oc, od, kV, doc, pm, an, cdv, ct, osl, rfl, lk, hcd⟩ := F.ex
      exact fun s us hu => match us, hu with | [_], _ => .of_eq rfl
    · intro H xs a hO hw ha hx
      cases hx with
      | cons h1 h2 =>
        cases h2
        cases h1 with
        | lst hs hd =>
          have ex := L2.ints_dw a.1 _ hd
          subst ex
          have hlen : a.1.length ≤ 16000 := Rt.len_of hw
          obtain ⟨cs, e1, e2, e3, e4, e5⟩ := Rt.plain_law a.1 hlen ha
          rw [e1] at hs hlen
          refine ⟨_, cs, rfl, hs, Nat.le_trans hlen (by decide), e2, e3, e4, fun H' td _ g => ?_⟩
          rw [e5] at g
          exact .lst (L2.SqL.of g) (L2.dw_ints _)
#print axioms PySem.Challenge.cw_roomtaps_s01_answers_holds
