import PyProof.Rows.All
import Wide.All
import OpenK.AllK
import Wide.FinOn
import HandS.HeadHook4
import KE.KStateDown
import KE.HD3
import HandS.HeadEnd
import HandS.Words
import HandS.EndBits
import HandS.ForMost
import HandS.Exc
import HandS.TryOnly
import HandS.Wide
import HandS.Deep
import HandS.SortInts
import HandS.Gcd
import HandS.Defaults
import HandS.IsInst
import HandS.Conv
import HandS.Flow
import HandS.Style
import HandS.HeadHook2
import HandS.CallSlots
import HandS.ExcOwn
import HandS.WideBits
import HandS.Zip
import HandS.Text
import KE.KDictZip
import PySem.Challenge.RW_seenfromwithin_k84_whole_rooms_pictured
section P_M0
set_option Elab.async false
set_option linter.all false
/-! M0: what the head's run names -/
namespace Mi
open PySem PySem.Spec PyProof.Rows L2
/-- the module's name x is the built-in id -/
def bltB (K : PySem.W.Frag) (x : Str) (id : String) : Bool := He.eqO (PySem.W.nsIn K mainGlobals x) (some (some (.builtin id)))
end Mi
end P_M0
section P_H84b
set_option Elab.async false
set_option linter.all false
set_option maxRecDepth 100000
set_option maxHeartbeats 0
namespace K84
open PySem PySem.Spec PyProof.Rows L2
def top (i : Nat) : Stmt := PySem.Challenge.pw_seenfromwithin_k84_whole_rooms_pictured.main.body.getD i (.Pass ⟨0, 0, 0, 0⟩)
def d_is_whole : He.DefD := ⟨("is_whole", none), "is_whole", "is_whole", defArgs (top 2), defBody (top 2), defScope (top 2), [], []⟩
def d_is_count : He.DefD := ⟨("is_count", none), "is_count", "is_count", defArgs (top 3), defBody (top 3), defScope (top 3), [.int (0)], []⟩
def d_is_tuple_of : He.DefD := ⟨("is_tuple_of", none), "is_tuple_of", "is_tuple_of", defArgs (top 4), defBody (top 4), defScope (top 4), [], []⟩
def d_InvalidHigh___init__ : He.DefD := ⟨("InvalidHigh", some "__init__"), "__init__", "InvalidHigh.__init__", defArgs (inClass (top 7) 0), defBody (inClass (top 7) 0), defScope (inClass (top 7) 0), [.non], []⟩
def d_InvalidPoint___init__ : He.DefD := ⟨("InvalidPoint", some "__init__"), "__init__", "InvalidPoint.__init__", defArgs (inClass (top 8) 0), defBody (inClass (top 8) 0), defScope (inClass (top 8) 0), [.non], []⟩
def d_InvalidRoom___init__ : He.DefD := ⟨("InvalidRoom", some "__init__"), "__init__", "InvalidRoom.__init__", defArgs (inClass (top 9) 0), defBody (inClass (top 9) 0), defScope (inClass (top 9) 0), [.non], []⟩
def d_InvalidWide___init__ : He.DefD := ⟨("InvalidWide", some "__init__"), "__init__", "InvalidWide.__init__", defArgs (inClass (top 11) 0), defBody (inClass (top 11) 0), defScope (inClass (top 11) 0), [.non], []⟩
def d_is_fraction : He.DefD := ⟨("is_fraction", none), "is_fraction", "is_fraction", defArgs (top 14), defBody (top 14), defScope (top 14), [], []⟩
def d_fraction : He.DefD := ⟨("fraction", none), "fraction", "fraction", defArgs (top 15), defBody (top 15), defScope (top 15), [], []⟩
def d_plus : He.DefD := ⟨("plus", none), "plus", "plus", defArgs (top 16), defBody (top 16), defScope (top 16), [], []⟩
def d_minus : He.DefD := ⟨("minus", none), "minus", "minus", defArgs (top 17), defBody (top 17), defScope (top 17), [], []⟩
def d_times : He.DefD := ⟨("times", none), "times", "times", defArgs (top 18), defBody (top 18), defScope (top 18), [], []⟩
def d_is_less : He.DefD := ⟨("is_less", none), "is_less", "is_less", defArgs (top 19), defBody (top 19), defScope (top 19), [], []⟩
def d_total : He.DefD := ⟨("total", none), "total", "total", defArgs (top 20), defBody (top 20), defScope (top 20), [], []⟩
def d_is_point : He.DefD := ⟨("is_point", none), "is_point", "is_point", defArgs (top 22), defBody (top 22), defScope (top 22), [], []⟩
def d_check_point : He.DefD := ⟨("check_point", none), "check_point", "check_point", defArgs (top 23), defBody (top 23), defScope (top 23), [], []⟩
def d_turn_there : He.DefD := ⟨("turn_there", none), "turn_there", "turn_there", defArgs (top 24), defBody (top 24), defScope (top 24), [], []⟩
def d_is_within : He.DefD := ⟨("is_within", none), "is_within", "is_within", defArgs (top 25), defBody (top 25), defScope (top 25), [], []⟩
def d_is_on_points : He.DefD := ⟨("is_on_points", none), "is_on", "is_on", defArgs (top 26), defBody (top 26), defScope (top 26), [], []⟩
def d_do_meet : He.DefD := ⟨("do_meet", none), "do_meet", "do_meet", defArgs (top 28), defBody (top 28), defScope (top 28), [], []⟩
def d_walls_there : He.DefD := ⟨("walls_there", none), "walls_there", "walls_there", defArgs (top 30), defBody (top 30), defScope (top 30), [], []⟩
def d_double_there : He.DefD := ⟨("double_there", none), "double_there", "double_there", defArgs (top 31), defBody (top 31), defScope (top 31), [], []⟩
def d_straight_at : He.DefD := ⟨("straight_at", none), "straight_at", "straight_at", defArgs (top 32), defBody (top 32), defScope (top 32), [], []⟩
def d_meeting_at : He.DefD := ⟨("meeting_at", none), "meeting_at", "meeting_at", defArgs (top 33), defBody (top 33), defScope (top 33), [], []⟩
def d_fault_there : He.DefD := ⟨("fault_there", none), "fault_there", "fault_there", defArgs (top 34), defBody (top 34), defScope (top 34), [], []⟩
def d_are_corners : He.DefD := ⟨("are_corners", none), "are_corners", "are_corners", defArgs (top 35), defBody (top 35), defScope (top 35), [], []⟩
def d_is_room : He.DefD := ⟨("is_room", none), "is_room", "is_room", defArgs (top 36), defBody (top 36), defScope (top 36), [], []⟩
def d_check_room : He.DefD := ⟨("check_room", none), "check_room", "check_room", defArgs (top 37), defBody (top 37), defScope (top 37), [], []⟩
def d_is_passed : He.DefD := ⟨("is_passed", none), "is_passed", "is_passed", defArgs (top 38), defBody (top 38), defScope (top 38), [], []⟩
def d_where_there : He.DefD := ⟨("where_there", none), "where_there", "where_there", defArgs (top 39), defBody (top 39), defScope (top 39), [], []⟩
def d_where_is : He.DefD := ⟨("where_is", none), "where_is", "where_is", defArgs (top 40), defBody (top 40), defScope (top 40), [], []⟩
def d_triple_of : He.DefD := ⟨("triple_of", none), "triple_of", "triple_of", defArgs (top 42), defBody (top 42), defScope (top 42), [], []⟩
def d_sign_of : He.DefD := ⟨("sign_of", none), "sign_of", "sign_of", defArgs (top 43), defBody (top 43), defScope (top 43), [], []⟩
def d_turn_of : He.DefD := ⟨("turn_of", none), "turn_of", "turn_of", defArgs (top 44), defBody (top 44), defScope (top 44), [], []⟩
def d_is_same : He.DefD := ⟨("is_same", none), "is_same", "is_same", defArgs (top 45), defBody (top 45), defScope (top 45), [], []⟩
def d_compared : He.DefD := ⟨("compared", none), "compared", "compared", defArgs (top 46), defBody (top 46), defScope (top 46), [], []⟩
def d_is_on_triples : He.DefD := ⟨("is_on_triples", none), "is_on", "is_on", defArgs (top 47), defBody (top 47), defScope (top 47), [], []⟩
def d_walls_of : He.DefD := ⟨("walls_of", none), "walls_of", "walls_of", defArgs (top 49), defBody (top 49), defScope (top 49), [], []⟩
def d_where_at : He.DefD := ⟨("where_at", none), "where_at", "where_at", defArgs (top 50), defBody (top 50), defScope (top 50), [], []⟩
def d_triples_of : He.DefD := ⟨("triples_of", none), "triples_of", "triples_of", defArgs (top 52), defBody (top 52), defScope (top 52), [], []⟩
def d_check_sizes : He.DefD := ⟨("check_sizes", none), "check_sizes", "check_sizes", defArgs (top 54), defBody (top 54), defScope (top 54), [], []⟩
def d_pictured : He.DefD := ⟨("pictured", none), "pictured", "pictured", defArgs (top 55), defBody (top 55), defScope (top 55), [], []⟩
def d_room_picture : He.DefD := ⟨("room_picture", none), "room_picture", "room_picture", defArgs (top 56), defBody (top 56), defScope (top 56), [], []⟩
def d__law_purse : He.DefD := ⟨("_law_purse", none), "_law_purse", "_law_purse", defArgs (top 58), defBody (top 58), defScope (top 58), [], []⟩
def d__law_mixed : He.DefD := ⟨("_law_mixed", none), "_law_mixed", "_law_mixed", defArgs (top 59), defBody (top 59), defScope (top 59), [], []⟩
def d__law_draw : He.DefD := ⟨("_law_draw", none), "_law_draw", "_law_draw", defArgs (top 60), defBody (top 60), defScope (top 60), [], []⟩
def d__law_purses : He.DefD := ⟨("_law_purses", none), "_law_purses", "_law_purses", defArgs (top 61), defBody (top 61), defScope (top 61), [], []⟩
def d__law_one_of : He.DefD := ⟨("_law_one_of", none), "_law_one_of", "_law_one_of", defArgs (top 62), defBody (top 62), defScope (top 62), [], []⟩
def d__law_shuffled : He.DefD := ⟨("_law_shuffled", none), "_law_shuffled", "_law_shuffled", defArgs (top 63), defBody (top 63), defScope (top 63), [], []⟩
def d__law_exact : He.DefD := ⟨("_law_exact", none), "_law_exact", "_law_exact", defArgs (top 64), defBody (top 64), defScope (top 64), [], []⟩
def d__law_copied : He.DefD := ⟨("_law_copied", none), "_law_copied", "_law_copied", defArgs (top 65), defBody (top 65), defScope (top 65), [], []⟩
def d__law_common : He.DefD := ⟨("_law_common", none), "_law_common", "_law_common", defArgs (top 66), defBody (top 66), defScope (top 66), [], []⟩
def d__law_out : He.DefD := ⟨("_law_out", none), "_law_out", "_law_out", defArgs (top 67), defBody (top 67), defScope (top 67), [], []⟩
def d__law_det : He.DefD := ⟨("_law_det", none), "_law_det", "_law_det", defArgs (top 68), defBody (top 68), defScope (top 68), [], []⟩
def d__law_same : He.DefD := ⟨("_law_same", none), "_law_same", "_law_same", defArgs (top 69), defBody (top 69), defScope (top 69), [], []⟩
def d__law_less : He.DefD := ⟨("_law_less", none), "_law_less", "_law_less", defArgs (top 70), defBody (top 70), defScope (top 70), [], []⟩
def d__law_on : He.DefD := ⟨("_law_on", none), "_law_on", "_law_on", defArgs (top 71), defBody (top 71), defScope (top 71), [], []⟩
def d__law_sides : He.DefD := ⟨("_law_sides", none), "_law_sides", "_law_sides", defArgs (top 72), defBody (top 72), defScope (top 72), [], []⟩
def d__law_where : He.DefD := ⟨("_law_where", none), "_law_where", "_law_where", defArgs (top 73), defBody (top 73), defScope (top 73), [], []⟩
def d__law_do_cross : He.DefD := ⟨("_law_do_cross", none), "_law_do_cross", "_law_do_cross", defArgs (top 74), defBody (top 74), defScope (top 74), [], []⟩
def d__law_twice : He.DefD := ⟨("_law_twice", none), "_law_twice", "_law_twice", defArgs (top 75), defBody (top 75), defScope (top 75), [], []⟩
def d__law_is_simple : He.DefD := ⟨("_law_is_simple", none), "_law_is_simple", "_law_is_simple", defArgs (top 76), defBody (top 76), defScope (top 76), [], []⟩
def d__law_ways : He.DefD := ⟨("_law_ways", none), "_law_ways", "_law_ways", defArgs (top 77), defBody (top 77), defScope (top 77), [], []⟩
def d__law_star : He.DefD := ⟨("_law_star", none), "_law_star", "_law_star", defArgs (top 78), defBody (top 78), defScope (top 78), [], []⟩
def d__law_comb : He.DefD := ⟨("_law_comb", none), "_law_comb", "_law_comb", defArgs (top 79), defBody (top 79), defScope (top 79), [], []⟩
def d__law_grown : He.DefD := ⟨("_law_grown", none), "_law_grown", "_law_grown", defArgs (top 80), defBody (top 80), defScope (top 80), [], []⟩
def d__law_room : He.DefD := ⟨("_law_room", none), "_law_room", "_law_room", defArgs (top 81), defBody (top 81), defScope (top 81), [], []⟩
def d__law_told_room : He.DefD := ⟨("_law_told_room", none), "_law_told_room", "_law_told_room", defArgs (top 82), defBody (top 82), defScope (top 82), [], []⟩
def d__law_picture : He.DefD := ⟨("_law_picture", none), "_law_picture", "_law_picture", defArgs (top 83), defBody (top 83), defScope (top 83), [], []⟩
def d__law_right : He.DefD := ⟨("_law_right", none), "_law_right", "_law_right", defArgs (top 84), defBody (top 84), defScope (top 84), [], []⟩
def d__law_nook : He.DefD := ⟨("_law_nook", none), "_law_nook", "_law_nook", defArgs (top 85), defBody (top 85), defScope (top 85), [], []⟩
def d_law : He.DefD := ⟨("law", none), "law", "law", defArgs (top 86), defBody (top 86), defScope (top 86), [], []⟩
def fn : List He.DefD := ([d_is_whole, d_is_count, d_is_tuple_of, d_InvalidHigh___init__, d_InvalidPoint___init__, d_InvalidRoom___init__, d_InvalidWide___init__, d_is_fraction, d_fraction, d_plus, d_minus, d_times, d_is_less, d_total, d_is_point, d_check_point, d_turn_there, d_is_within, d_is_on_points, d_do_meet, d_walls_there, d_double_there, d_straight_at, d_meeting_at, d_fault_there, d_are_corners, d_is_room, d_check_room, d_is_passed, d_where_there] : List He.DefD) ++ ([d_where_is, d_triple_of, d_sign_of, d_turn_of, d_is_same, d_compared, d_is_on_triples, d_walls_of, d_where_at, d_triples_of, d_check_sizes, d_pictured, d_room_picture, d__law_purse, d__law_mixed, d__law_draw, d__law_purses, d__law_one_of, d__law_shuffled, d__law_exact, d__law_copied, d__law_common, d__law_out, d__law_det, d__law_same, d__law_less, d__law_on, d__law_sides, d__law_where, d__law_do_cross] : List He.DefD) ++ ([d__law_twice, d__law_is_simple, d__law_ways, d__law_star, d__law_comb, d__law_grown, d__law_room, d__law_told_room, d__law_picture, d__law_right, d__law_nook, d_law] : List He.DefD)
def fa : List He.Fa := ([.glo "is_whole", .glo "is_count", .glo "is_tuple_of", .glo "is_fraction", .glo "fraction", .glo "plus", .glo "minus", .glo "times", .glo "is_less", .glo "total", .glo "is_point", .glo "check_point", .glo "turn_there", .glo "is_within", .glo "is_on_points", .glo "do_meet", .glo "walls_there", .glo "double_there", .glo "straight_at", .glo "meeting_at", .glo "fault_there", .glo "are_corners", .glo "is_room", .glo "check_room", .glo "is_passed", .glo "where_there", .glo "where_is", .glo "triple_of", .glo "sign_of", .glo "turn_of"] : List He.Fa) ++ ([.glo "is_same", .glo "compared", .glo "is_on_triples", .glo "walls_of", .glo "where_at", .glo "triples_of", .glo "check_sizes", .glo "pictured", .glo "room_picture", .glo "_law_purse", .glo "_law_mixed", .glo "_law_draw", .glo "_law_purses", .glo "_law_one_of", .glo "_law_shuffled", .glo "_law_exact", .glo "_law_copied", .glo "_law_common", .glo "_law_out", .glo "_law_det", .glo "_law_same", .glo "_law_less", .glo "_law_on", .glo "_law_sides", .glo "_law_where", .glo "_law_do_cross", .glo "_law_twice", .glo "_law_is_simple", .glo "_law_ways", .glo "_law_star"] : List He.Fa) ++ ([.glo "_law_comb", .glo "_law_grown", .glo "_law_room", .glo "_law_told_room", .glo "_law_picture", .glo "_law_right", .glo "_law_nook", .glo "law", .free "ValueError", .free "abs", .free "all", .free "any", .free "bool", .free "dict", .free "int", .free "isinstance", .free "len", .free "list", .free "max", .free "min", .free "range", .free "sorted", .free "str", .free "sum", .free "tuple", .free "zip", .glo "NOUGHT"] : List He.Fa)
def ex (K : PySem.W.Frag) : Bool := (Mi.bltB K "gcd" "math.gcd" && (He.tupB K "NOUGHT" [.int (0), .int (1)] && true))
abbrev R : PySem.W.OpenRow := PySem.W.OpenLaw.row PySem.Challenge.rw_seenfromwithin_k84_whole_rooms_pictured
end K84
end P_H84b
section P_R84b
set_option Elab.async false
set_option linter.all false
set_option maxRecDepth 100000
set_option maxHeartbeats 0
namespace K84
open PySem PySem.Spec PyProof.Rows L2
def loose : List PySem.Str := (["__name__", "is_whole", "is_count", "is_tuple_of", "SightError", "InvalidHigh", "InvalidPoint", "InvalidRoom", "InvalidWide", "NOUGHT", "is_fraction", "fraction", "plus", "minus", "times", "is_less", "total", "is_point", "check_point", "turn_there", "is_within", "is_on", "is_on_points", "do_meet", "walls_there", "double_there", "straight_at", "meeting_at", "fault_there", "are_corners"] : List PySem.Str) ++ (["is_room", "check_room", "is_passed", "where_there", "where_is", "triple_of", "sign_of", "turn_of", "is_same", "compared", "is_on_triples", "walls_of", "where_at", "triples_of", "check_sizes", "pictured", "room_picture", "_law_purse", "_law_mixed", "_law_draw", "_law_purses", "_law_one_of", "_law_shuffled", "_law_exact", "_law_copied", "_law_common", "_law_out", "_law_det", "_law_same", "_law_less"] : List PySem.Str) ++ (["_law_on", "_law_sides", "_law_where", "_law_do_cross", "_law_twice", "_law_is_simple", "_law_ways", "_law_star", "_law_comb", "_law_grown", "_law_room", "_law_told_room", "_law_picture", "_law_right", "_law_nook"] : List PySem.Str)
abbrev hk : PySem.W.Hook := He.hookX 4 fa fn [] [] ex
def ob (s : PySem.W.SharedT) : He.AlX := He.obsX 4 fa fn [] [] ex (HeadRun.getT s)
theorem ob_eq (s : PySem.W.SharedT) : ob s = hk.obs s.abs := He.obsX_eq (HeadRun.getT_eq s)
theorem run (w : World) : HeadRun.RunEqI R (PySem.W.view R.prog [0, 86]) hk ob 4000 loose w := by
  unfold HeadRun.RunEqI
  kernel_rfl
end K84
end P_R84b
section P_M1
set_option Elab.async false
set_option linter.all false
set_option maxRecDepth 100000
set_option maxHeartbeats 4000000
/-! M1: plain values over HandS: what a value is, the relation to the abstract heap, how it stays. -/
namespace Mi
open PySem PySem.Spec PyProof.Rows L2

abbrev Kf := PySem.W.Frag
/-- a value: lists and tuples as data; ref: an object of the small heap -/
inductive MV where
  | non | bl (b : Bool) | int (i : Int) | str (s : List Nat)
  | tup (xs : List MV) | lst (xs : List MV) | dic (ks : List (Key × MV)) | ref (n : Nat) | exc (c : Str) (v : MV) | scr (xs : List MV)
  deriving Inhabited
inductive MO where
  | lst (xs : List MV)
structure MH where
  nx : Nat
  get : Nat → Option MO
inductive Res (α : Type) where
  | ok (a : α) (h : MH) | ex (c : Str) (v : MV) (h : MH) | no
inductive SV where
  | un | val (m : MV) | own (xs : List MV)
  deriving Inhabited
abbrev Sl := List SV
inductive Fl where
  | nx (σ : Sl) (h : MH) | rt (v : MV) (h : MH) | bk (σ : Sl) (h : MH) | ct (σ : Sl) (h : MH) | ex (c : Str) (v : MV) (σ : Sl) (h : MH) | no
/-- the ghosts: which addresses are frozen, where the small heap's objects stand, how many there are -/
structure Gh where
  F : Addr → Prop
  ρ : Nat → Addr
  N : Nat
def Gh.fz (g : Gh) (p : Addr) : Gh := { g with F := fun b => g.F b ∨ b = p }

/-- a tuple of the written part -/
def WrT (K : Kf) (a : Addr) (vs : List V) : Prop := ∃ (o : Obj) (its : Array Value) (n : Nat), K.lookup a = some o ∧ o.cls = .type "tuple" ∧ o.data = .seq its n ∧ its.size ≤ sizeLine ∧ Vals vs its.toList
/-- a list of the written part -/
def WrL (K : Kf) (a : Addr) (vs : List V) : Prop := ∃ (o : Obj) (its : Array Value) (n : Nat), K.lookup a = some o ∧ o.cls = .type "list" ∧ o.dict = none ∧ o.data = .seq its n ∧ its.size ≤ sizeLine ∧ Vals vs its.toList
mutual
inductive RV (K : Kf) (g : Gh) (H : Hp) : MV → V → Prop
  | non : RV K g H .non .non
  | bl (b : Bool) : RV K g H (.bl b) (.bl b)
  | int (i : Int) : RV K g H (.int i) (.int i)
  | str (s : List Nat) : RV K g H (.str s) (.str ⟨s.toArray⟩)
  | tup {a : Addr} {vs : List V} {xs : List MV} : g.F a → H a = some (.tup vs) → xs.length ≤ sizeLine → RVs K g H xs vs → RV K g H (.tup xs) (.ref a)
  | tupK {a : Addr} {vs : List V} {xs : List MV} : WrT K a vs → RVs K g H xs vs → RV K g H (.tup xs) (.ref a)
  | lst {a : Addr} {vs : List V} {xs : List MV} : g.F a → H a = some (.lst vs) → xs.length ≤ sizeLine → RVs K g H xs vs → RV K g H (.lst xs) (.ref a)
  | scr {a : Addr} {vs : List V} {xs : List MV} : ((g.F a ∧ ∃ o, H a = some (.frz o (.lst vs))) ∨ WrL K a vs) → xs.length ≤ sizeLine → RVs K g H xs vs → RV K g H (.scr xs) (.ref a)
  | dic {a : Addr} {kvs : List (Key × V)} {ks : List (Key × MV)} : g.F a → H a = some (.dK kvs) → RKs K g H ks kvs → RV K g H (.dic ks) (.ref a)
  | ref (n : Nat) : n < g.N → RV K g H (.ref n) (.ref (g.ρ n))
inductive RVs (K : Kf) (g : Gh) (H : Hp) : List MV → List V → Prop
  | nil : RVs K g H [] []
  | cons {x : MV} {v : V} {xs : List MV} {vs : List V} : RV K g H x v → RVs K g H xs vs → RVs K g H (x :: xs) (v :: vs)
inductive RKs (K : Kf) (g : Gh) (H : Hp) : List (Key × MV) → List (Key × V) → Prop
  | nil : RKs K g H [] []
  | cons {k : Key} {x : MV} {v : V} {ks : List (Key × MV)} {kvs : List (Key × V)} : RV K g H x v → RKs K g H ks kvs → RKs K g H ((k, x) :: ks) ((k, v) :: kvs)
end
section
variable {K : Kf} {g g' : Gh} {H H' : Hp}
/-- what a value's reading leans on stays -/
structure Up (g : Gh) (H : Hp) (g' : Gh) (H' : Hp) : Prop where
  n : g.N ≤ g'.N
  rho : ∀ n, n < g.N → g'.ρ n = g.ρ n
  f1 : ∀ b, g.F b → g'.F b
  hp : ∀ b o, g.F b → H b = some o → H' b = some o
mutual
theorem RV.up (u : Up g H g' H') : ∀ {m : MV} {v : V}, RV K g H m v → RV K g' H' m v
  | _, _, .non => .non
  | _, _, .bl b => .bl b
  | _, _, .int i => .int i
  | _, _, .str s => .str s
  | _, _, .tup f h z r => .tup (u.f1 _ f) (u.hp _ _ f h) z (RVs.up u r)
  | _, _, .tupK w r => .tupK w (RVs.up u r)
  | _, _, .lst f h z r => .lst (u.f1 _ f) (u.hp _ _ f h) z (RVs.up u r)
  | _, _, .scr h z r => .scr (by
      rcases h with ⟨f, o, h⟩ | h
      · exact .inl ⟨u.f1 _ f, o, u.hp _ _ f h⟩
      · exact .inr h) z (RVs.up u r)
  | _, _, .dic f h r => .dic (u.f1 _ f) (u.hp _ _ f h) (RKs.up u r)
  | _, _, .ref n h => by
      have e := u.rho n h
      rw [← e]
      exact .ref n (Nat.lt_of_lt_of_le h u.n)
theorem RVs.up (u : Up g H g' H') : ∀ {xs : List MV} {vs : List V}, RVs K g H xs vs → RVs K g' H' xs vs
  | _, _, .nil => .nil
  | _, _, .cons r rs => .cons (RV.up u r) (RVs.up u rs)
theorem RKs.up (u : Up g H g' H') : ∀ {xs : List (Key × MV)} {vs : List (Key × V)}, RKs K g H xs vs → RKs K g' H' xs vs
  | _, _, .nil => .nil
  | _, _, .cons r rs => .cons (RV.up u r) (RKs.up u rs)
end
theorem Up.refl : Up g H g H := ⟨Nat.le_refl _, fun _ _ => rfl, fun _ h => h, fun _ _ _ h => h⟩
theorem RVs.length : ∀ {xs : List MV} {vs : List V}, RVs K g H xs vs → xs.length = vs.length
  | _, _, .nil => rfl
  | _, _, .cons _ rs => congrArg (· + 1) rs.length
theorem RVs.get : ∀ {xs : List MV} {vs : List V} {i : Nat} {m : MV}, RVs K g H xs vs → xs[i]? = some m → ∃ v, vs[i]? = some v ∧ RV K g H m v
  | _, _, _, _, .nil, e => by simp at e
  | _, _, 0, _, .cons r _, e => by simp at e; subst e; exact ⟨_, rfl, r⟩
  | _, _, i + 1, _, .cons _ rs, e => by
    obtain ⟨v, h1, h2⟩ := RVs.get (i := i) rs (by simpa using e)
    exact ⟨v, by simpa using h1, h2⟩
theorem RVs.get' : ∀ {xs : List MV} {vs : List V} {i : Nat} {v : V}, RVs K g H xs vs → vs[i]? = some v → ∃ m, xs[i]? = some m ∧ RV K g H m v
  | _, _, _, _, .nil, e => by simp at e
  | _, _, 0, _, .cons r _, e => by simp at e; subst e; exact ⟨_, rfl, r⟩
  | _, _, i + 1, _, .cons _ rs, e => by
    obtain ⟨v, h1, h2⟩ := RVs.get' (i := i) rs (by simpa using e)
    exact ⟨v, by simpa using h1, h2⟩
theorem RVs.append : ∀ {xs ys : List MV} {vs ws : List V}, RVs K g H xs vs → RVs K g H ys ws → RVs K g H (xs ++ ys) (vs ++ ws)
  | _, _, _, _, .nil, s => s
  | _, _, _, _, .cons r t, s => .cons r (RVs.append t s)
theorem RVs.take : ∀ {xs : List MV} {vs : List V} (n : Nat), RVs K g H xs vs → RVs K g H (xs.take n) (vs.take n)
  | _, _, 0, _ => .nil
  | _, _, _ + 1, .nil => .nil
  | _, _, n + 1, .cons r t => .cons r (RVs.take n t)
theorem RVs.drop : ∀ {xs : List MV} {vs : List V} (n : Nat), RVs K g H xs vs → RVs K g H (xs.drop n) (vs.drop n)
  | _, _, 0, r => r
  | _, _, _ + 1, .nil => .nil
  | _, _, n + 1, .cons _ t => RVs.drop n t
theorem RVs.reverse {xs : List MV} {vs : List V} (r : RVs K g H xs vs) : RVs K g H xs.reverse vs.reverse := by
  have go : ∀ {xs : List MV} {vs : List V}, RVs K g H xs vs → RVs K g H xs.reverse vs.reverse := by
    intro xs
    induction xs with
    | nil => intro vs r; cases r; exact .nil
    | cons x xs ih =>
      intro vs r
      cases r with
      | cons r rs =>
        rw [List.reverse_cons, List.reverse_cons]
        exact (ih rs).append (.cons r .nil)
  exact go r
theorem RVs.set {x : MV} {v : V} (r : RV K g H x v) : ∀ {xs : List MV} {vs : List V} (i : Nat), RVs K g H xs vs → RVs K g H (xs.set i x) (vs.set i v)
  | _, _, _, .nil => .nil
  | _, _, 0, .cons _ t => .cons r t
  | _, _, i + 1, .cons q t => .cons q (RVs.set r i t)
theorem RVs.ints : ∀ {ns : List Int}, RVs K g H (ns.map MV.int) (ns.map V.int)
  | [] => .nil
  | n :: _ => .cons (.int n) RVs.ints
theorem RVs.strs : ∀ {ns : List (List Nat)}, RVs K g H (ns.map MV.str) (ns.map fun s => V.str ⟨s.toArray⟩)
  | [] => .nil
  | n :: _ => .cons (.str n) RVs.strs
end

/-! ### the small heap -/
def Live (g : Gh) (hm : MH) (b : Addr) : Prop := ∃ n, hm.get n ≠ none ∧ g.ρ n = b
def RO (K : Kf) (g : Gh) (H : Hp) (a : Addr) : MO → Prop
  | .lst xs => xs.length ≤ sizeLine ∧ ∃ vs, H a = some (.lst vs) ∧ RVs K g H xs vs
structure Rel (K : Kf) (g : Gh) (hm : MH) (H : Hp) : Prop where
  nx : g.N = hm.nx
  lt : ∀ n, hm.get n ≠ none → n < hm.nx
  inj : ∀ n m, hm.get n ≠ none → hm.get m ≠ none → g.ρ n = g.ρ m → n = m
  nf : ∀ n, hm.get n ≠ none → ¬ g.F (g.ρ n)
  ob : ∀ n o, hm.get n = some o → RO K g H (g.ρ n) o
  fs : ∀ b, g.F b → H b ≠ none
theorem RO.has {K : Kf} {g : Gh} {H : Hp} {a : Addr} : ∀ {o : MO}, RO K g H a o → H a ≠ none
  | .lst _, ⟨_, _, h, _⟩ => by rw [h]; intro z; cases z
theorem RO.up {K : Kf} {g g' : Gh} {H H' : Hp} {a : Addr} (u : Up g H g' H') (h : ∀ o, H a = some o → H' a = some o) : ∀ {o : MO}, RO K g H a o → RO K g' H' a o
  | .lst _, ⟨z, vs, e, r⟩ => ⟨z, vs, h _ e, r.up u⟩

/-- what a piece of code leaves -/
structure Ext (K : Kf) (g : Gh) (hm : MH) (H : Hp) (g' : Gh) (hm' : MH) (H' : Hp) : Prop where
  n : g.N ≤ g'.N
  rho : ∀ n, n < g.N → g'.ρ n = g.ρ n
  f1 : ∀ b, g.F b → g'.F b
  f2 : ∀ b, g'.F b → g.F b ∨ H b = none
  keep : ∀ b o, H b = some o → ¬ Live g hm b → H' b = some o
  stay : ∀ b, H b ≠ none → H' b ≠ none
  fresh : ∀ n, g.N ≤ n → n < g'.N → H (g'.ρ n) = none
  live : ∀ n, n < g.N → hm'.get n ≠ none → hm.get n ≠ none
  rel : Rel K g' hm' H'
section
variable {K : Kf} {g g' g'' : Gh} {hm hm' hm'' : MH} {H H' H'' : Hp}
theorem Rel.notlive (r : Rel K g hm H) {b : Addr} (f : g.F b) : ¬ Live g hm b := fun ⟨n, h, e⟩ => r.nf n h (e ▸ f)
theorem Ext.up (r : Rel K g hm H) (e : Ext K g hm H g' hm' H') : Up g H g' H' :=
  ⟨e.n, e.rho, e.f1, fun b o f h => e.keep b o h (r.notlive f)⟩
theorem Ext.refl (r : Rel K g hm H) : Ext K g hm H g hm H :=
  ⟨Nat.le_refl _, fun _ _ => rfl, fun _ h => h, fun _ h => .inl h, fun _ _ h _ => h, fun _ h => h, fun n h1 h2 => absurd (Nat.lt_of_lt_of_le h2 h1) (Nat.lt_irrefl _), fun _ _ h => h, r⟩
theorem Ext.live' (r : Rel K g hm H) (e : Ext K g hm H g' hm' H') {b : Addr} (hb : H b ≠ none) (l : Live g' hm' b) : Live g hm b := by
  obtain ⟨n, h, rfl⟩ := l
  have hn := e.rel.lt n h
  rw [← e.rel.nx] at hn
  by_cases c : n < g.N
  · exact ⟨n, e.live n c h, (e.rho n c).symm⟩
  · exact absurd (e.fresh n (Nat.le_of_not_lt c) hn) hb
theorem Ext.trans (r : Rel K g hm H) (a : Ext K g hm H g' hm' H') (b : Ext K g' hm' H' g'' hm'' H'') : Ext K g hm H g'' hm'' H'' where
  n := Nat.le_trans a.n b.n
  rho := fun n h => (b.rho n (Nat.lt_of_lt_of_le h a.n)).trans (a.rho n h)
  f1 := fun c h => b.f1 c (a.f1 c h)
  f2 := fun c h => by
    rcases b.f2 c h with h | h
    · exact a.f2 c h
    · refine .inr ?_
      cases q : H c with
      | none => rfl
      | some o => exact absurd h (a.stay c (by rw [q]; intro z; cases z))
  keep := fun c o h l => b.keep c o (a.keep c o h l) fun l' => l (a.live' r (by rw [h]; intro z; cases z) l')
  stay := fun c h => b.stay c (a.stay c h)
  fresh := fun n h1 h2 => by
    by_cases c : n < g'.N
    · rw [b.rho n c]; exact a.fresh n h1 c
    · have q := b.fresh n (Nat.le_of_not_lt c) h2
      cases e : H (g''.ρ n) with
      | none => rfl
      | some o => exact absurd q (a.stay _ (by rw [e]; intro z; cases z))
  live := fun n h1 h2 => a.live n h1 (b.live n (Nat.lt_of_lt_of_le h1 a.n) h2)
  rel := b.rel
/-- a new object is laid, and frozen -/
theorem Ext.fz (r : Rel K g hm H) {p : Addr} {o : HO} (hp : H p = none) : Ext K g hm H (g.fz p) hm (upd H p o) := by
  have u : Up g H (g.fz p) (upd H p o) := ⟨Nat.le_refl _, fun _ _ => rfl, fun _ h => .inl h, fun b w _ h => by rw [upd_ne (ne_of_none h hp)]; exact h⟩
  have pn : ∀ n, hm.get n ≠ none → g.ρ n ≠ p := fun n h e => by
    cases q : hm.get n with
    | none => exact h q
    | some w => exact (r.ob n w q).has (e ▸ hp)
  refine ⟨Nat.le_refl _, fun _ _ => rfl, fun _ h => .inl h, fun b h => ?_, fun b w h _ => by rw [upd_ne (ne_of_none h hp)]; exact h, fun b h => ?_, fun n h1 h2 => absurd (Nat.lt_of_lt_of_le h2 h1) (Nat.lt_irrefl _), fun _ _ h => h, ?_⟩
  · rcases h with h | h
    · exact .inl h
    · exact .inr (h ▸ hp)
  · by_cases c : b = p
    · rw [c, upd_same]; intro z; cases z
    · rw [upd_ne c]; exact h
  · refine ⟨r.nx, r.lt, r.inj, fun n h f => ?_, fun n w h => RO.up u (fun w' q => by rw [upd_ne (ne_of_none q hp)]; exact q) (r.ob n w h), fun b f => ?_⟩
    · rcases f with f | f
      · exact r.nf n h f
      · exact pn n h f
    · rcases f with f | f
      · by_cases c : b = p
        · rw [c, upd_same]; intro z; cases z
        · rw [upd_ne c]; exact r.fs b f
      · rw [f, upd_same]; intro z; cases z
/-- a new object is laid, not frozen yet -/
theorem Ext.lay (r : Rel K g hm H) {p : Addr} {o : HO} (hp : H p = none) : Ext K g hm H g hm (upd H p o) := by
  have u : Up g H g (upd H p o) := ⟨Nat.le_refl _, fun _ _ => rfl, fun _ h => h, fun b w _ h => by rw [upd_ne (ne_of_none h hp)]; exact h⟩
  refine ⟨Nat.le_refl _, fun _ _ => rfl, fun _ h => h, fun b h => .inl h, fun b w h _ => by rw [upd_ne (ne_of_none h hp)]; exact h, fun b h => ?_, fun n h1 h2 => absurd (Nat.lt_of_lt_of_le h2 h1) (Nat.lt_irrefl _), fun _ _ h => h, ?_⟩
  · by_cases c : b = p
    · rw [c, upd_same]; intro z; cases z
    · rw [upd_ne c]; exact h
  · refine ⟨r.nx, r.lt, r.inj, r.nf, fun n w h => RO.up u (fun w' q => by rw [upd_ne (ne_of_none q hp)]; exact q) (r.ob n w h), fun b f => ?_⟩
    by_cases c : b = p
    · rw [c, upd_same]; intro z; cases z
    · rw [upd_ne c]; exact r.fs b f
/-- an object of ours, not frozen, not of the small heap, is frozen -/
theorem Ext.freeze (r : Rel K g hm H) {a : Addr} (h0 : H a ≠ none) (nl : ¬ Live g hm a) : Rel K (g.fz a) hm H ∧ Up g H (g.fz a) H := by
  have u : Up g H (g.fz a) H := ⟨Nat.le_refl _, fun _ _ => rfl, fun _ h => .inl h, fun b w _ h => h⟩
  refine ⟨⟨r.nx, r.lt, r.inj, fun n h f => ?_, fun n w h => RO.up u (fun _ q => q) (r.ob n w h), fun b f => ?_⟩, u⟩
  · rcases f with f | f
    · exact r.nf n h f
    · exact nl ⟨n, h, f⟩
  · rcases f with f | f
    · exact r.fs b f
    · rw [f]; exact h0
end

/-! ### the slots -/
def RSl (K : Kf) (g : Gh) (hm : MH) (H : Hp) : SV → Option V → Prop
  | .un, _ => True
  | .val m, some v => RV K g H m v
  | .own xs, some v => xs.length ≤ sizeLine ∧ ∃ a vs, v = .ref a ∧ H a = some (.lst vs) ∧ RVs K g H xs vs ∧ ¬ g.F a ∧ ¬ Live g hm a
  | _, none => False
structure REnv (K : Kf) (g : Gh) (hm : MH) (H : Hp) (σm : Sl) (σ : L2.St) : Prop where
  len : σm.length = σ.length
  sl : ∀ (i : Nat) (s : SV), σm[i]? = some s → ∃ o : Option V, σ[i]? = some o ∧ RSl K g hm H s o
  ap : ∀ (i j : Nat) (xs ys : List MV), σm[i]? = some (.own xs) → σm[j]? = some (.own ys) → i ≠ j → σ[i]? ≠ σ[j]?
section
variable {K : Kf} {g g' g'' : Gh} {hm hm' hm'' : MH} {H H' H'' : Hp} {σm : Sl} {σ : L2.St}
theorem REnv.ext (r : Rel K g hm H) (e : Ext K g hm H g' hm' H') (R : REnv K g hm H σm σ) : REnv K g' hm' H' σm σ := by
  refine ⟨R.len, fun i s h => ?_, R.ap⟩
  obtain ⟨o, h1, h2⟩ := R.sl i s h
  refine ⟨o, h1, ?_⟩
  cases s with
  | un => trivial
  | val m =>
    cases o with
    | none => exact h2
    | some v => exact RV.up (e.up r) h2
  | own xs =>
    cases o with
    | none => exact h2
    | some v =>
      obtain ⟨z, a, vs, rfl, ha, hr, nf, nl⟩ := h2
      refine ⟨z, a, vs, rfl, e.keep _ _ ha nl, hr.up (e.up r), fun f => ?_, fun l => nl (e.live' r (by rw [ha]; intro z; cases z) l)⟩
      rcases e.f2 a f with f | f
      · exact nf f
      · rw [ha] at f; cases f
theorem REnv.val (R : REnv K g hm H σm σ) {i : Nat} {m : MV} (h : σm[i]? = some (.val m)) : ∃ v, σ[i]? = some (some v) ∧ RV K g H m v := by
  obtain ⟨o, h1, h2⟩ := R.sl i _ h
  cases o with
  | none => exact h2.elim
  | some v => exact ⟨v, h1, h2⟩
theorem REnv.own (R : REnv K g hm H σm σ) {i : Nat} {xs : List MV} (h : σm[i]? = some (.own xs)) :
    ∃ a vs, σ[i]? = some (some (.ref a)) ∧ xs.length ≤ sizeLine ∧ H a = some (.lst vs) ∧ RVs K g H xs vs ∧ ¬ g.F a ∧ ¬ Live g hm a := by
  obtain ⟨o, h1, h2⟩ := R.sl i _ h
  cases o with
  | none => exact h2.elim
  | some v =>
    obtain ⟨z, a, vs, rfl, q⟩ := h2
    exact ⟨a, vs, h1, z, q⟩
theorem get_set {α : Type} {l : List α} {i j : Nat} {x s : α} (h : (l.set i x)[j]? = some s) : (j = i ∧ s = x ∧ i < l.length) ∨ (j ≠ i ∧ l[j]? = some s) := by
  by_cases c : j = i
  · subst c
    by_cases hj : j < l.length
    · rw [List.getElem?_set_self hj] at h
      exact .inl ⟨rfl, (Option.some.inj h).symm, hj⟩
    · rw [List.getElem?_eq_none (by simpa using hj)] at h; cases h
  · rw [List.getElem?_set_ne (Ne.symm c)] at h
    exact .inr ⟨c, h⟩
theorem REnv.set_val (R : REnv K g hm H σm σ) (i : Nat) {m : MV} {v : V} (rv : RV K g H m v) : REnv K g hm H (σm.set i (.val m)) (σ.set i (some v)) := by
  refine ⟨by simp [R.len], fun j s h => ?_, fun j k xs ys h1 h2 ne => ?_⟩
  · rcases get_set h with ⟨rfl, rfl, hl⟩ | ⟨c, h⟩
    · exact ⟨some v, List.getElem?_set_self (by rw [← R.len]; exact hl), rv⟩
    · obtain ⟨o, h1, h2⟩ := R.sl j s h
      exact ⟨o, by rw [List.getElem?_set_ne (Ne.symm c)]; exact h1, h2⟩
  · rcases get_set h1 with ⟨rfl, z, _⟩ | ⟨c1, h1⟩
    · cases z
    · rcases get_set h2 with ⟨rfl, z, _⟩ | ⟨c2, h2⟩
      · cases z
      · rw [List.getElem?_set_ne (Ne.symm c1), List.getElem?_set_ne (Ne.symm c2)]
        exact R.ap j k xs ys h1 h2 ne
theorem REnv.set_un (R : REnv K g hm H σm σ) (i : Nat) (o : Option V) : REnv K g hm H (σm.set i .un) (σ.set i o) := by
  refine ⟨by simp [R.len], fun j s h => ?_, fun j k xs ys h1 h2 ne => ?_⟩
  · rcases get_set h with ⟨rfl, rfl, hl⟩ | ⟨c, h⟩
    · exact ⟨o, List.getElem?_set_self (by rw [← R.len]; exact hl), trivial⟩
    · obtain ⟨o, h1, h2⟩ := R.sl j s h
      exact ⟨o, by rw [List.getElem?_set_ne (Ne.symm c)]; exact h1, h2⟩
  · rcases get_set h1 with ⟨rfl, z, _⟩ | ⟨c1, h1⟩
    · cases z
    · rcases get_set h2 with ⟨rfl, z, _⟩ | ⟨c2, h2⟩
      · cases z
      · rw [List.getElem?_set_ne (Ne.symm c1), List.getElem?_set_ne (Ne.symm c2)]
        exact R.ap j k xs ys h1 h2 ne
/-- a slot's own list is put: at a new address, or at its old one (its object has changed) -/
theorem REnv.set_own (R : REnv K g hm H σm σ) (i : Nat) {a : Addr} {xs : List MV} {vs : List V} (z : xs.length ≤ sizeLine) (ha : H a = some (.lst vs)) (rv : RVs K g H xs vs) (nf : ¬ g.F a) (nl : ¬ Live g hm a)
    (ne : ∀ (j : Nat) (ys : List MV), j ≠ i → σm[j]? = some (.own ys) → σ[j]? ≠ some (some (.ref a))) : REnv K g hm H (σm.set i (.own xs)) (σ.set i (some (.ref a))) := by
  refine ⟨by simp [R.len], fun j s h => ?_, fun j k ys ws h1 h2 d => ?_⟩
  · rcases get_set h with ⟨rfl, rfl, hl⟩ | ⟨c, h⟩
    · exact ⟨some (.ref a), List.getElem?_set_self (by rw [← R.len]; exact hl), z, a, vs, rfl, ha, rv, nf, nl⟩
    · obtain ⟨o, h1, h2⟩ := R.sl j s h
      exact ⟨o, by rw [List.getElem?_set_ne (Ne.symm c)]; exact h1, h2⟩
  · rcases get_set h1 with ⟨rfl, e1, l1⟩ | ⟨c1, h1⟩
    · rcases get_set h2 with ⟨rfl, e2, _⟩ | ⟨c2, h2⟩
      · exact absurd rfl d
      · rw [List.getElem?_set_self (by rw [← R.len]; exact l1), List.getElem?_set_ne (Ne.symm c2)]
        exact fun e => ne k ws c2 h2 e.symm
    · rcases get_set h2 with ⟨e0, e2, l2⟩ | ⟨c2, h2⟩
      · rw [e0, List.getElem?_set_self (by rw [← R.len]; exact l2), List.getElem?_set_ne (Ne.symm c1)]
        exact ne j ys c1 h1
      · rw [List.getElem?_set_ne (Ne.symm c1), List.getElem?_set_ne (Ne.symm c2)]
        exact R.ap j k ys ws h1 h2 d
end
end Mi
end P_M1
section P_M2
set_option Elab.async false
set_option linter.all false
set_option maxRecDepth 100000
set_option maxHeartbeats 4000000
/-! M2: what a piece of Python does, as a Lean function on plain values: the readings rdE, rdP, rdO, rdA, rdT, rdS, and how they go together. -/
namespace Mi
open PySem PySem.Spec PyProof.Rows L2

abbrev EM := Sl → MH → Res MV
abbrev OM := Sl → MH → Res (List MV)
abbrev TM := Sl → MH → Res Bool
abbrev SM := Sl → MH → Fl
abbrev WNo : WX := fun _ _ _ _ => False

/-- an exception's data -/
def RX (K : Kf) (g : Gh) (H : Hp) (c : Str) (m : MV) (cls : Value) (d : Option Addr) : Prop := ∃ (dd : Addr) (v : V), cls = .ref (He.ga K c) ∧ d = some dd ∧ H dd = some (.xd [("value", v)]) ∧ RV K g H m v

section
variable {α β : Type}
/-- what is left behind a piece: P tells of its answer -/
def Post (K : Kf) (W : WX) (g : Gh) (hm : MH) (σ : L2.St) (H : Hp) (r : Res α) (P : α → Gh → MH → Hp → Prop) : Prop := match r with
  | .ok m hm' => ∀ g' H', Ext K g hm H g' hm' H' → P m g' hm' H'
  | .ex c m hm' => ∀ g' H' cls d, Ext K g hm H g' hm' H' → RX K g' H' c m cls d → W cls d σ H'
  | .no => False
/-- the start of a reading -/
def Rdg (K : Kf) (W : WX) (σ : L2.St) (H : Hp) (f : Sl → MH → Res α) (P : α → Gh → MH → Hp → Prop) : Prop := ∃ g σm hm, Rel K g hm H ∧ REnv K g hm H σm σ ∧ Post K W g hm σ H (f σm hm) P
end
/-- a value that may be looked at, not kept: a slot's own list too -/
inductive RP (K : Kf) (g : Gh) (hm : MH) (H : Hp) : MV → V → Prop
  | of {m : MV} {v : V} : RV K g H m v → RP K g hm H m v
  | own {a : Addr} {vs : List V} {xs : List MV} : xs.length ≤ sizeLine → H a = some (.lst vs) → RVs K g H xs vs → ¬ Live g hm a → RP K g hm H (.lst xs) (.ref a)
def rdE (K : Kf) (W : WX) (f : EM) : TE := fun σ H Q => Rdg K W σ H f fun m g' _ H' => ∀ v, RV K g' H' m v → Q v H'
def rdP (K : Kf) (W : WX) (f : EM) : TE := fun σ H Q => Rdg K W σ H f fun m g' hm' H' => ∀ v, RP K g' hm' H' m v → Q v H'
/-- a new list, nobody's yet -/
def rdO (K : Kf) (W : WX) (f : OM) : TE := fun σ H Q => Rdg K W σ H f fun xs g' hm' H' => ∀ a vs, H a = none → H' a = some (.lst vs) → xs.length ≤ sizeLine → RVs K g' H' xs vs → ¬ g'.F a → ¬ Live g' hm' a → Q (.ref a) H'
def rdA (K : Kf) (W : WX) (f : OM) : TA := fun σ H Q => Rdg K W σ H f fun ms g' _ H' => ∀ vs, RVs K g' H' ms vs → Q vs H'
def rdT (K : Kf) (W : WX) (f : TM) : TT := fun σ H Q => Rdg K W σ H f fun b _ _ H' => Q b H'

theorem imp_e {X : Cx} {e : Expr} {t t' : TE} (h : PE X e t) (k : ∀ σ H Q, t' σ H Q → t σ H Q) : PE X e t' := ⟨fun pins s σ H Q I q => h.run pins s σ H Q I (k σ H Q q)⟩
theorem imp_t {X : Cx} {e : Expr} {t t' : TT} (h : PT X e t) (k : ∀ σ H Q, t' σ H Q → t σ H Q) : PT X e t' := ⟨fun pins s σ H Q I q => h.run pins s σ H Q I (k σ H Q q)⟩
theorem imp_w {X : Cx} {e : Expr} {t t' : TT} (h : PW X e t) (k : ∀ σ H Q, t' σ H Q → t σ H Q) : PW X e t' := ⟨fun wh pins s σ H Q I q => h.run wh pins s σ H Q I (k σ H Q q)⟩
theorem imp_a {X : Cx} {e : List Expr} {t t' : TA} (h : PA X e t) (k : ∀ σ H Q, t' σ H Q → t σ H Q) : PA X e t' := ⟨fun p pins s σ H Q I q => h.run p pins s σ H Q I (k σ H Q q)⟩
theorem imp_s {X : Cx} {st : Stmt} {t t' : TS} (h : PS X st t) (k : ∀ D σ H, t' D σ H → t D σ H) : PS X st t' := ⟨fun pins s σ H D I q => h.run pins s σ H D I (k D σ H q)⟩
theorem imp_ss {X : Cx} {st : List Stmt} {t t' : TS} (h : PSs X st t) (k : ∀ D σ H, t' D σ H → t D σ H) : PSs X st t' := ⟨fun pins s σ H D I q => h.run pins s σ H D I (k D σ H q)⟩
theorem imp_g {X : Cx} {tg : Expr} {t t' : TG} (h : PG X tg t) (k : ∀ v σ H Q, t' v σ H Q → t v σ H Q) : PG X tg t' := ⟨fun pins s σ H v u Q I r q => h.run pins s σ H v u Q I r (k v σ H Q q)⟩

section
variable {α β : Type} {K : Kf} {W : WX} {σ : L2.St} {H : Hp}
theorem RP.ext {g g' : Gh} {hm hm' : MH} {H' : Hp} {m : MV} {v : V} (r : Rel K g hm H) (e : Ext K g hm H g' hm' H') (p : RP K g hm H m v) : RP K g' hm' H' m v := by
  cases p with
  | of p => exact .of (p.up (e.up r))
  | own z ha rv nl => exact .own z (e.keep _ _ ha nl) (rv.up (e.up r)) fun l => nl (e.live' r (by rw [ha]; intro z; cases z) l)
theorem Post.mono {g : Gh} {hm : MH} {r : Res α} {P P' : α → Gh → MH → Hp → Prop} (h : Post K W g hm σ H r P) (k : ∀ m g' hm' H', Ext K g hm H g' hm' H' → P m g' hm' H' → P' m g' hm' H') : Post K W g hm σ H r P' := by
  cases r with
  | ok m hm' => exact fun g' H' e => k m g' hm' H' e (h g' H' e)
  | ex c m hm' => exact h
  | no => exact h
def bindR (r : Res α) (k : α → MH → Res β) : Res β := match r with
  | .ok m h => k m h
  | .ex c v h => .ex c v h
  | .no => .no
def bindE (f : Sl → MH → Res α) (k : α → Sl → MH → Res β) : Sl → MH → Res β := fun σ h => bindR (f σ h) fun m h' => k m σ h'
/-- of a bound piece: the first, then the rest from there -/
theorem Post.bind {g : Gh} {hm : MH} {r : Res α} {k : α → MH → Res β} {P : β → Gh → MH → Hp → Prop} (rel : Rel K g hm H) (h : Post K W g hm σ H (bindR r k) P) :
    Post K W g hm σ H r fun m g' hm' H' => Post K W g' hm' σ H' (k m hm') P := by
  cases r with
  | ok m hm' =>
    intro g' H' e
    have h' : Post K W g hm σ H (k m hm') P := h
    cases q : k m hm' with
    | ok m2 hm2 =>
      rw [q] at h'
      exact fun g2 H2 e2 => h' g2 H2 (e.trans rel e2)
    | ex c m2 hm2 =>
      rw [q] at h'
      exact fun g2 H2 cls d e2 x => h' g2 H2 cls d (e.trans rel e2) x
    | no =>
      rw [q] at h'
      exact h'
  | ex c m hm' => exact h
  | no => exact h
theorem Post.noW {g : Gh} {hm : MH} {r : Res α} {P : α → Gh → MH → Hp → Prop} (h : Post K WNo g hm σ H r P) (W : WX) : Post K W g hm σ H r P := by
  cases r with
  | ok m hm' => exact h
  | ex c m hm' => exact fun g' H' cls d e x => (h g' H' cls d e x).elim
  | no => exact h
theorem rdE_mono {f : EM} {Q Q' : VK} (h : rdE K W f σ H Q) (k : ∀ v H, Q v H → Q' v H) : rdE K W f σ H Q' :=
  let ⟨g, σm, hm, r, R, p⟩ := h
  ⟨g, σm, hm, r, R, p.mono fun _ _ _ _ _ q v rv => k _ _ (q v rv)⟩
theorem rdP_mono {f : EM} {Q Q' : VK} (h : rdP K W f σ H Q) (k : ∀ v H, Q v H → Q' v H) : rdP K W f σ H Q' :=
  let ⟨g, σm, hm, r, R, p⟩ := h
  ⟨g, σm, hm, r, R, p.mono fun _ _ _ _ _ q v rv => k _ _ (q v rv)⟩
theorem rdA_mono {f : OM} {Q Q' : List V → Hp → Prop} (h : rdA K W f σ H Q) (k : ∀ v H, Q v H → Q' v H) : rdA K W f σ H Q' :=
  let ⟨g, σm, hm, r, R, p⟩ := h
  ⟨g, σm, hm, r, R, p.mono fun _ _ _ _ _ q v rv => k _ _ (q v rv)⟩
theorem rdT_mono {f : TM} {Q Q' : Bool → Hp → Prop} (h : rdT K W f σ H Q) (k : ∀ v H, Q v H → Q' v H) : rdT K W f σ H Q' :=
  let ⟨g, σm, hm, r, R, p⟩ := h
  ⟨g, σm, hm, r, R, p.mono fun _ _ _ _ _ q => k _ _ q⟩
/-- values looked at, in a row -/
inductive RPs (K : Kf) (g : Gh) (hm : MH) (H : Hp) : List MV → List V → Prop
  | nil : RPs K g hm H [] []
  | cons {x : MV} {v : V} {xs : List MV} {vs : List V} : RP K g hm H x v → RPs K g hm H xs vs → RPs K g hm H (x :: xs) (v :: vs)
theorem RPs.ext {g g' : Gh} {hm hm' : MH} {H' : Hp} (r : Rel K g hm H) (e : Ext K g hm H g' hm' H') : ∀ {m : List MV} {v : List V}, RPs K g hm H m v → RPs K g' hm' H' m v
  | _, _, .nil => .nil
  | _, _, .cons p ps => .cons (p.ext r e) (RPs.ext r e ps)
/-- between two parts of an expression: ms, vs are known already; k is to come -/
def Mid (K : Kf) (W : WX) (σ : L2.St) (H : Hp) (ms : List MV) (vs : List V) (k : Sl → MH → Res α) (P : α → Gh → MH → Hp → Prop) : Prop :=
  ∃ g σm hm, Rel K g hm H ∧ REnv K g hm H σm σ ∧ RPs K g hm H ms vs ∧ Post K W g hm σ H (k σm hm) P
theorem Mid.start {k : Sl → MH → Res α} {P : α → Gh → MH → Hp → Prop} (h : Rdg K W σ H k P) : Mid K W σ H [] [] k P :=
  let ⟨g, σm, hm, r, R, p⟩ := h
  ⟨g, σm, hm, r, R, .nil, p⟩
theorem Mid.step {ms : List MV} {vs : List V} {f : EM} {k : MV → Sl → MH → Res α} {P : α → Gh → MH → Hp → Prop} (h : Mid K W σ H ms vs (bindE f k) P) :
    rdP K W f σ H fun v H1 => ∃ m, Mid K W σ H1 (m :: ms) (v :: vs) (k m) P := by
  obtain ⟨g, σm, hm, r, R, ps, p⟩ := h
  exact ⟨g, σm, hm, r, R, (Post.bind r p).mono fun m g' hm' H' e q v rv => ⟨m, g', σm, hm', e.rel, R.ext r e, .cons rv (ps.ext r e), q⟩⟩
theorem Mid.stepT {ms : List MV} {vs : List V} {f : TM} {k : Bool → Sl → MH → Res α} {P : α → Gh → MH → Hp → Prop} (h : Mid K W σ H ms vs (bindE f k) P) :
    rdT K W f σ H fun b H1 => Mid K W σ H1 ms vs (k b) P := by
  obtain ⟨g, σm, hm, r, R, ps, p⟩ := h
  exact ⟨g, σm, hm, r, R, (Post.bind r p).mono fun m g' hm' H' e q => ⟨g', σm, hm', e.rel, R.ext r e, ps.ext r e, q⟩⟩
theorem Mid.rdg {ms : List MV} {vs : List V} {k : Sl → MH → Res α} {P : α → Gh → MH → Hp → Prop} (h : Mid K W σ H ms vs k P) : Rdg K W σ H k P :=
  let ⟨g, σm, hm, r, R, _, p⟩ := h
  ⟨g, σm, hm, r, R, p⟩
end

/-! ### from one reading to another -/
section
variable {X : Cx} {W : WX} {e : Expr}
def wrapL (f : OM) : EM := fun σ h => bindR (f σ h) fun xs h' => .ok (.lst xs) h'
theorem PE.p {f : EM} (h : PE X e (rdP X.K W f)) : PE X e (rdE X.K W f) → PE X e (rdP X.K W f) := fun _ => h
theorem toP {f : EM} (h : PE X e (rdE X.K W f)) : PE X e (rdP X.K W f) := imp_e h fun σ H Q q =>
  let ⟨g, σm, hm, r, R, p⟩ := q
  ⟨g, σm, hm, r, R, p.mono fun _ _ _ _ _ k v rv => k v (.of rv)⟩
/-- a new list is frozen -/
theorem Ext.fzo {K : Kf} {g g' : Gh} {hm hm' : MH} {H H' : Hp} {a : Addr} (e : Ext K g hm H g' hm' H') (h0 : H a = none) (h1 : H' a ≠ none) (nl : ¬ Live g' hm' a) : Ext K g hm H (g'.fz a) hm' H' ∧ Up g' H' (g'.fz a) H' := by
  obtain ⟨rel, u⟩ := Ext.freeze e.rel h1 nl
  refine ⟨⟨e.n, e.rho, fun b f => .inl (e.f1 b f), fun b f => ?_, e.keep, e.stay, e.fresh, e.live, rel⟩, u⟩
  rcases f with f | f
  · exact e.f2 b f
  · exact .inr (f ▸ h0)
theorem ofO {f : OM} (h : PE X e (rdO X.K W f)) : PE X e (rdE X.K W (wrapL f)) := imp_e h fun σ H Q q => by
  obtain ⟨g, σm, hm, r, R, p⟩ := q
  refine ⟨g, σm, hm, r, R, ?_⟩
  unfold wrapL at p
  cases c : f σm hm with
  | ok xs h' =>
    rw [c] at p
    intro g' H' e a vs h0 h1 z rv nf nl
    obtain ⟨e2, u⟩ := Ext.fzo e h0 (by rw [h1]; intro z; cases z) nl
    exact p (g'.fz a) H' e2 _ (.lst (.inr rfl) h1 z (rv.up u))
  | ex c m h' =>
    rw [c] at p
    exact p
  | no =>
    rw [c] at p
    exact p
end
end Mi
end P_M2
section P_M3
set_option Elab.async false
set_option linter.all false
set_option maxRecDepth 100000
set_option maxHeartbeats 4000000
set_option exponentiation.threshold 10000
/-! M3: the operators on plain values -/
namespace Mi
open PySem PySem.Spec PyProof.Rows L2

abbrev zl : Nat := 16777216
theorem zl_eq : sizeLine = zl := sizeLine_eq
def bigN : Nat := 2 ^ 400000
theorem big_log {i : Int} (h : i.natAbs < bigN) : i.natAbs.log2 < 400000 := PySem.Flt.log2_lt_of (by decide) h
theorem lt_big {n : Nat} (h : n < 2 ^ 4000) : n < bigN := Nat.lt_of_lt_of_le h (Nat.pow_le_pow_right (by decide) (by decide))

/-! ### data -/
def okV : Nat → MV → Bool
  | _, .non | _, .bl _ | _, .int _ => true
  | _, .str s => s.all (· < 0x110000)
  | n + 1, .lst xs => xs.all (okV n)
  | n + 1, .tup xs => xs.all (okV n)
  | _, _ => false
abbrev okD (m : MV) : Bool := okV 40 m
mutual
def meq : MV → MV → Bool
  | .non, .non => true
  | .bl a, .bl b => a == b
  | .bl a, .int j => (if a then 1 else 0) == j
  | .int i, .bl b => i == (if b then 1 else 0)
  | .int i, .int j => i == j
  | .str x, .str y => x == y
  | .lst xs, .lst ys => meqs xs ys
  | .tup xs, .tup ys => meqs xs ys
  | _, _ => false
def meqs : List MV → List MV → Bool
  | [], [] => true
  | x :: xs, y :: ys => meq x y && meqs xs ys
  | _, _ => false
end
mutual
def toD : MV → PyData
  | .bl b => .bool b
  | .int i => .int i
  | .str s => .str ⟨s.toArray⟩
  | .lst xs => .list (toDs xs)
  | .tup xs => .tuple (toDs xs)
  | _ => .none
def toDs : List MV → List PyData
  | [] => []
  | x :: xs => toD x :: toDs xs
end
theorem toD_lay : ∀ (n : Nat) (m : MV), okV n m = true → (toD m).canLay0 = true ∧ (toD m).depth ≤ n := by
  intro n
  induction n with
  | zero =>
    intro m h
    cases m <;> simp_all [okV, toD, PyData.canLay0, PyData.depth, PyData.strOk]
  | succ n ih =>
    have all : ∀ xs : List MV, xs.all (okV n) = true → PyData.canLayAll0 (toDs xs) = true ∧ PyData.depthAll (toDs xs) ≤ n := by
      intro xs
      induction xs with
      | nil => intro _; simp [toDs, PyData.canLayAll0, PyData.depthAll]
      | cons x xs ih2 =>
        intro h
        rw [List.all_cons, Bool.and_eq_true] at h
        obtain ⟨a, b⟩ := ih x h.1
        obtain ⟨c, d⟩ := ih2 h.2
        refine ⟨?_, ?_⟩
        · simp [toDs, PyData.canLayAll0, a, c]
        · simp only [toDs, PyData.depthAll]; omega
    intro m h
    cases m with
    | lst xs =>
      have h' : xs.all (okV n) = true := h
      obtain ⟨a, b⟩ := all xs h'
      refine ⟨?_, ?_⟩
      · simp [toD, PyData.canLay0, a]
      · simp only [toD, PyData.depth]; omega
    | tup xs =>
      have h' : xs.all (okV n) = true := h
      obtain ⟨a, b⟩ := all xs h'
      refine ⟨?_, ?_⟩
      · simp [toD, PyData.canLay0, a]
      · simp only [toD, PyData.depth]; omega
    | _ => simp_all [okV, toD, PyData.canLay0, PyData.depth, PyData.strOk]
theorem shaped_of {m : MV} (h : okD m = true) : SeqAt.shaped (toD m) = true := by
  obtain ⟨a, b⟩ := toD_lay 40 m h
  unfold SeqAt.shaped
  rw [a, Bool.true_and]
  exact decide_eq_true (by omega)
theorem str_beq (x y : List Nat) : ((⟨x.toArray⟩ : Str) == ⟨y.toArray⟩) = (x == y) := by
  by_cases h : x = y
  · subst h; simp
  · have e1 : (x == y) = false := by simpa using h
    have e2 : ¬ ((⟨x.toArray⟩ : Str) = ⟨y.toArray⟩) := fun z => h (by simpa using congrArg (fun s : Str => s.cps.toList) z)
    rw [e1]
    simpa using e2
theorem eqv_meq : ∀ (n : Nat) (a b : MV), okV n a = true → okV n b = true → PyData.eqv (toD a) (toD b) = meq a b := by
  intro n
  induction n with
  | zero =>
    intro a b ha hb
    cases a <;> first | (exfalso; simp [okV] at ha; done) | skip
    all_goals (cases b <;> first | (exfalso; simp [okV] at hb; done) | skip)
    all_goals simp [toD, PyData.eqv, meq, str_beq]
  | succ n ih =>
    have all : ∀ xs ys : List MV, xs.all (okV n) = true → ys.all (okV n) = true → PyData.eqvAll (toDs xs) (toDs ys) = meqs xs ys := by
      intro xs
      induction xs with
      | nil => intro ys _ _; cases ys <;> simp [toDs, PyData.eqvAll, meqs]
      | cons x xs ih2 =>
        intro ys hx hy
        cases ys with
        | nil => simp [toDs, PyData.eqvAll, meqs]
        | cons y ys =>
          rw [List.all_cons, Bool.and_eq_true] at hx hy
          simp only [toDs, PyData.eqvAll, meqs, ih x y hx.1 hy.1, ih2 ys hx.2 hy.2]
    intro a b ha hb
    cases a <;> first | (exfalso; simp [okV] at ha; done) | skip
    all_goals (cases b <;> first | (exfalso; simp [okV] at hb; done) | skip)
    case lst.lst xs ys => simpa [toD, PyData.eqv, meq] using all xs ys ha hb
    case tup.tup xs ys => simpa [toD, PyData.eqv, meq] using all xs ys ha hb
    all_goals simp [toD, PyData.eqv, meq, str_beq]
section
variable {K : Kf} {g : Gh} {hm : MH} {H : Hp}
theorem dp_of : ∀ (n : Nat) (m : MV) (v : V), okV n m = true → RV K g H m v → Dp K H v (toD m) := by
  intro n
  induction n with
  | zero =>
    intro m v h r
    cases r <;> first | (exfalso; simp [okV] at h; done) | skip
    all_goals simp only [toD]
    · exact .non
    · exact .bl _
    · exact .int _
    · exact .str _
  | succ n ih =>
    have all : ∀ (xs : List MV) (vs : List V), xs.all (okV n) = true → RVs K g H xs vs → DpAll K H vs (toDs xs) := by
      intro xs
      induction xs with
      | nil => intro vs _ r; cases r; exact .nil
      | cons x xs ih2 =>
        intro vs h r
        cases r with
        | cons r rs =>
          rw [List.all_cons, Bool.and_eq_true] at h
          exact .cons (ih x _ h.1 r) (ih2 _ h.2 rs)
    intro m v h r
    cases r <;> first | (exfalso; simp [okV] at h; done) | skip
    all_goals simp only [toD]
    · exact .non
    · exact .bl _
    · exact .int _
    · exact .str _
    · rename_i f hh z rs; exact .tup (SqT.of hh) (all _ _ h rs)
    · rename_i w rs; exact .tup (.inr w) (all _ _ h rs)
    · rename_i f hh z rs; exact .lst (SqL.of hh) (all _ _ h rs)
theorem dps_of (n : Nat) : ∀ (xs : List MV) (vs : List V), xs.all (okV n) = true → RVs K g H xs vs → DpAll K H vs (toDs xs)
  | [], _, _, .nil => .nil
  | x :: xs, _, h, .cons r rs => by
    rw [List.all_cons, Bool.and_eq_true] at h
    exact .cons (dp_of n x _ h.1 r) (dps_of n xs _ h.2 rs)
theorem dpP {m : MV} {v : V} (h : okD m = true) (r : RP K g hm H m v) : Dp K H v (toD m) := by
  cases r with
  | of r => exact dp_of 40 m v h r
  | own z ha rv nl => simp only [toD]; exact .lst (SqL.of ha) (dps_of 39 _ _ h rv)
end

/-! ### two values -/
def VP2 (K : Kf) (r : R2) (op : MH → MV → MV → Option MV) : Prop := ∀ (g : Gh) (hm : MH) (H : Hp) (x y : MV) (vx vy : V) (m : MV) (Q : VK), Rel K g hm H → RP K g hm H x vx → RP K g hm H y vy → op hm x y = some m →
  (∀ g' H' v, Ext K g hm H g' hm H' → RV K g' H' m v → Q v H') → r vx vy H Q
def optR {α : Type} (o : Option α) (h : MH) : Res α := match o with
  | some m => .ok m h
  | none => .no
def bin2 (op : MH → MV → MV → Option MV) (fa fb : EM) : EM := bindE fa fun x => bindE fb fun y => fun _ h => optR (op h x y) h
section
variable {X : Cx} {W : WX} {a b : Expr} {pos : Pos}
theorem fin2 {K : Kf} {W : WX} {σ : L2.St} {H : Hp} {r : R2} {op : MH → MV → MV → Option MV} {x y : MV} {vx vy : V} {Q : VK} (hv : VP2 K r op)
    (h : Mid K W σ H [y, x] [vy, vx] (fun _ h => optR (op h x y) h) fun m g' _ H' => ∀ v, RV K g' H' m v → Q v H') : r vx vy H Q := by
  obtain ⟨g, σm, hm, rl, R, ps, p⟩ := h
  cases ps with
  | cons py ps =>
    cases ps with
    | cons px ps =>
      have p : Post K W g hm σ H (optR (op hm x y) hm) fun m g' _ H' => ∀ v, RV K g' H' m v → Q v H' := p
      cases e : op hm x y with
      | none => rw [e] at p; exact False.elim p
      | some m =>
        rw [e] at p
        exact hv g hm H x y vx vy m Q rl px py e fun g' H' v ex rv => p g' H' ex v rv
theorem mid2 {K : Kf} {W : WX} {r : R2} {op : MH → MV → MV → Option MV} {fa fb : EM} (hv : VP2 K r op) (σ : L2.St) (H : Hp) (Q : VK) (h : rdE K W (bin2 op fa fb) σ H Q) : tOp r (rdP K W fa) (rdP K W fb) σ H Q :=
  rdP_mono (Mid.start h).step fun vx H1 ⟨x, c⟩ => rdP_mono c.step fun vy H2 ⟨y, c2⟩ => fin2 hv c2
theorem se_bin {op : Operator} {r : R2} {f : MH → MV → MV → Option MV} {fa fb : EM} (ho : OpR X (binaryOp op) r) (hv : VP2 X.K r f) (ha : PE X a (rdP X.K W fa)) (hb : PE X b (rdP X.K W fb)) :
    PE X (.BinOp a op b pos) (rdE X.K W (bin2 f fa fb)) := imp_e (pe_op ho ha hb) (mid2 hv)
theorem se_cmp {op : CmpOp} {r : R2} {f : MH → MV → MV → Option MV} {fa fb : EM} (ho : OpR X (compareOp op) r) (hv : VP2 X.K r f) (hm : behindInMarks op b = false) (ha : PE X a (rdP X.K W fa)) (hb : PE X b (rdP X.K W fb)) :
    PE X (.Compare a [op] [b] pos) (rdE X.K W (bin2 f fa fb)) := imp_e (pe_cmpR ho ha hb hm) (mid2 hv)
theorem se_ix {r : R2} {f : MH → MV → MV → Option MV} {fa fb : EM} (ho : IxR X r) (hv : VP2 X.K r f) (hs : PlainIx b) (ha : PE X a (rdP X.K W fa)) (hb : PE X b (rdP X.K W fb)) :
    PE X (.Subscript a b pos) (rdE X.K W (bin2 f fa fb)) := imp_e (pe_ix ho ha hb hs) (mid2 hv)
theorem VP2.or {K : Kf} {r r' : R2} {f f' : MH → MV → MV → Option MV} (h : VP2 K r f) (h' : VP2 K r' f') : VP2 K (fun x y H Q => r x y H Q ∨ r' x y H Q) fun hm x y => (f hm x y).or (f' hm x y) := by
  intro g hm H x y vx vy m Q rl px py e k
  have e' : (f hm x y).or (f' hm x y) = some m := e
  cases q : f hm x y with
  | some m' =>
    rw [q] at e'
    cases e'
    exact .inl (h g hm H x y vx vy _ Q rl px py q k)
  | none =>
    rw [q] at e'
    exact .inr (h' g hm H x y vx vy _ Q rl px py e' k)
/-- the same function, spelt otherwise -/
theorem VP2.as {K : Kf} {r : R2} {f f' : MH → MV → MV → Option MV} (h : VP2 K r f) (e : ∀ hm x y, f' hm x y = f hm x y) : VP2 K r f' :=
  fun g hm H x y vx vy m Q rl px py q k => h g hm H x y vx vy m Q rl px py ((e hm x y).symm.trans q) k
end

/-! ### the operators -/
def intOp (f : Int → Int → Option MV) : MH → MV → MV → Option MV := fun _ x y => match x, y with
  | .int i, .int j => f i j
  | _, _ => none
theorem intOp_some {f : Int → Int → Option MV} {hm : MH} {x y m : MV} (h : intOp f hm x y = some m) : ∃ i j, x = .int i ∧ y = .int j ∧ f i j = some m := by
  unfold intOp at h
  split at h
  · exact ⟨_, _, rfl, rfl, h⟩
  · cases h
theorem RP.int_inv {K : Kf} {g : Gh} {hm : MH} {H : Hp} {i : Int} {v : V} (r : RP K g hm H (.int i) v) : v = .int i := by
  cases r with
  | of r => cases r; rfl
theorem RP.bl_inv {K : Kf} {g : Gh} {hm : MH} {H : Hp} {i : Bool} {v : V} (r : RP K g hm H (.bl i) v) : v = .bl i := by
  cases r with
  | of r => cases r; rfl
theorem RP.str_inv {K : Kf} {g : Gh} {hm : MH} {H : Hp} {i : List Nat} {v : V} (r : RP K g hm H (.str i) v) : v = .str ⟨i.toArray⟩ := by
  cases r with
  | of r => cases r; rfl
theorem RP.lst_inv {K : Kf} {g : Gh} {hm : MH} {H : Hp} {xs : List MV} {v : V} (r : RP K g hm H (.lst xs) v) : ∃ a vs, v = .ref a ∧ H a = some (.lst vs) ∧ xs.length ≤ sizeLine ∧ RVs K g H xs vs := by
  cases r with
  | of r => cases r with
    | lst f h z rs => exact ⟨_, _, rfl, h, z, rs⟩
  | own z h rs nl => exact ⟨_, _, rfl, h, z, rs⟩
theorem RP.tup_inv {K : Kf} {g : Gh} {hm : MH} {H : Hp} {xs : List MV} {v : V} (r : RP K g hm H (.tup xs) v) : ∃ a vs, v = .ref a ∧ SqT K H a vs ∧ RVs K g H xs vs := by
  cases r with
  | of r => cases r with
    | tup f h z rs => exact ⟨_, _, rfl, SqT.of h, rs⟩
    | tupK w rs => exact ⟨_, _, rfl, .inr w, rs⟩
section
variable {K : Kf}
theorem vp_int {C : Int → Int → Prop} [∀ i j, Decidable (C i j)] {gv : Int → Int → V} {gm : Int → Int → MV} (hg : ∀ g H i j, RV K g H (gm i j) (gv i j)) :
    VP2 K (rI C gv) (intOp fun i j => if C i j then some (gm i j) else none) := by
  intro g hm H x y vx vy m Q rl px py e k
  obtain ⟨i, j, rfl, rfl, e1⟩ := intOp_some e
  by_cases c : C i j
  · rw [if_pos c] at e1
    cases e1
    exact ⟨i, j, px.int_inv, py.int_inv, c, k g H _ (.refl rl) (hg g H i j)⟩
  · rw [if_neg c] at e1; cases e1
theorem vp_int0 {gv : Int → Int → V} {gm : Int → Int → MV} (hg : ∀ g H i j, RV K g H (gm i j) (gv i j)) : VP2 K (rI0 gv) (intOp fun i j => some (gm i j)) := by
  intro g hm H x y vx vy m Q rl px py e k
  obtain ⟨i, j, rfl, rfl, e1⟩ := intOp_some e
  cases e1
  exact ⟨i, j, px.int_inv, py.int_inv, k g H _ (.refl rl) (hg g H i j)⟩
/-! + -/
def addM : MH → MV → MV → Option MV := fun _ x y => match x, y with
  | .int i, .int j => some (.int (i + j))
  | .str a, .str b => if a.length + b.length ≤ zl then some (.str (a ++ b)) else none
  | .lst a, .lst b => if a.length + b.length ≤ zl then some (.lst (a ++ b)) else none
  | _, _ => none
def rAddM : R2 := fun x y H Q => rI0 (fun i j => .int (i + j)) x y H Q ∨ (∃ i j, x = .str i ∧ y = .str j ∧ i.length + j.length ≤ sizeLine ∧ Q (.str (i ++ j)) H) ∨ rCat x y H Q
theorem op_addM {X : Cx} : OpR X (binaryOp .Add) rAddM := op_add.or (op_add_str.or op_cat)
theorem str_app (a b : List Nat) : (⟨a.toArray⟩ : Str) ++ ⟨b.toArray⟩ = ⟨(a ++ b).toArray⟩ := by
  show (⟨a.toArray ++ b.toArray⟩ : Str) = _
  simp
theorem str_len (a : List Nat) : (⟨a.toArray⟩ : Str).length = a.length := by
  show a.toArray.size = _
  simp
theorem vp_add : VP2 K rAddM addM := by
  intro g hm H x y vx vy m Q rl px py e k
  unfold addM at e
  split at e
  · cases e
    exact .inl ⟨_, _, px.int_inv, py.int_inv, k g H _ (.refl rl) (.int _)⟩
  · split at e
    · rename_i c
      cases e
      refine .inr (.inl ⟨_, _, px.str_inv, py.str_inv, by rw [str_len, str_len, zl_eq]; exact c, ?_⟩)
      rw [str_app]
      exact k g H _ (.refl rl) (.str _)
    · cases e
  · split at e
    · rename_i a b c
      cases e
      obtain ⟨l, vs, rfl, h1, z1, r1⟩ := px.lst_inv
      obtain ⟨l', vs', rfl, h2, z2, r2⟩ := py.lst_inv
      refine .inr (.inr ⟨l, l', vs, vs', rfl, rfl, h1, h2, by rw [← r1.length, ← r2.length, zl_eq]; exact c, fun p hp => ?_⟩)
      have ex := Ext.fz (o := .lst (vs ++ vs')) rl hp
      exact k _ _ _ ex (.lst (.inr rfl) upd_same (by rw [List.length_append, zl_eq]; exact c) ((r1.append r2).up (ex.up rl)))
    · cases e
  · cases e
/-! - * // % ** -/
def subM : MH → MV → MV → Option MV := fun _ x y => match x, y with
  | .int i, .int j => some (.int (i - j))
  | .bl a, .bl b => some (.int (b2i a - b2i b))
  | _, _ => none
abbrev rSubM : R2 := fun x y H Q => rI0 (fun i j => .int (i - j)) x y H Q ∨ ∃ a b, x = .bl a ∧ y = .bl b ∧ Q (.int (b2i a - b2i b)) H
theorem op_subM {X : Cx} : OpR X (binaryOp .Sub) rSubM := op_sub.or fun pins s σ H x y v u Q I rx ry h => by
  obtain ⟨a, b, rfl, rfl, q⟩ := h
  cases rx
  cases ry
  exact sub_bool ⟨.int (b2i a - b2i b), H, I.tok _, ⟨_, rfl⟩, q⟩
theorem vp_sub : VP2 K rSubM subM := by
  intro g hm H x y vx vy m Q rl px py e k
  unfold subM at e
  split at e
  · cases e
    exact .inl ⟨_, _, px.int_inv, py.int_inv, k g H _ (.refl rl) (.int _)⟩
  · cases e
    exact .inr ⟨_, _, px.bl_inv, py.bl_inv, k g H _ (.refl rl) (.int _)⟩
  · cases e
def mulOk (i j : Int) : Prop := i.natAbs < bigN ∧ j.natAbs < bigN
instance (i j : Int) : Decidable (mulOk i j) := inferInstanceAs (Decidable (_ ∧ _))
theorem mulOk.w {i j : Int} (h : mulOk i j) : CMulW i j := by
  have a := big_log h.1
  have b := big_log h.2
  unfold CMulW
  omega
def mulM : MH → MV → MV → Option MV := fun _ x y => match x, y with
  | .int i, .int j => if mulOk i j then some (.int (i * j)) else none
  | .lst xs, .int k => if xs.length * k.toNat ≤ zl ∧ k.natAbs < 2 ^ 62 then some (.lst (List.replicate k.toNat xs).flatten) else none
  | _, _ => none
def rMulM : R2 := fun x y H Q => rI CMulW (fun i j => .int (i * j)) x y H Q ∨ rRep x y H Q
theorem op_mulM {X : Cx} : OpR X (binaryOp .Mult) rMulM := op_mulW.or op_rep
theorem RVs.rep {g : Gh} {H : Hp} {xs : List MV} {vs : List V} (r : RVs K g H xs vs) : ∀ k : Nat, RVs K g H (List.replicate k xs).flatten (List.replicate k vs).flatten
  | 0 => .nil
  | k + 1 => by
    rw [List.replicate_succ, List.replicate_succ, List.flatten_cons, List.flatten_cons]
    exact RVs.append r (RVs.rep r k)
theorem len_rep {α : Type} (xs : List α) : ∀ k : Nat, (List.replicate k xs).flatten.length = xs.length * k
  | 0 => by simp
  | k + 1 => by rw [List.replicate_succ, List.flatten_cons, List.length_append, len_rep xs k, Nat.mul_succ, Nat.add_comm]
theorem vp_mul : VP2 K rMulM mulM := by
  intro g hm H x y vx vy m Q rl px py e k
  unfold mulM at e
  split at e
  · split at e
    · rename_i c
      cases e
      exact .inl ⟨_, _, px.int_inv, py.int_inv, c.w, k g H _ (.refl rl) (.int _)⟩
    · cases e
  · split at e
    · rename_i xs j c
      cases e
      obtain ⟨l, vs, rfl, h1, z1, r1⟩ := px.lst_inv
      refine .inr ⟨l, j, vs, rfl, py.int_inv, h1, by omega, by omega, by rw [← r1.length, zl_eq]; exact c.1, fun p hp => ?_⟩
      have ex := Ext.fz (o := .lst (List.replicate j.toNat vs).flatten) rl hp
      exact k _ _ _ ex (.lst (.inr rfl) upd_same (by rw [len_rep, zl_eq]; exact c.1) ((r1.rep _).up (ex.up rl)))
    · cases e
  · cases e
def CDivG (_ j : Int) : Prop := j ≠ 0 ∧ j.natAbs < 2 ^ 9000
instance (i j : Int) : Decidable (CDivG i j) := inferInstanceAs (Decidable (_ ∧ _))
theorem op_fdivG {X : Cx} : OpR X (binaryOp .FloorDiv) (rI CDivG fun i j => .int (i.fdiv j)) := opI fun _ _ _ _ _ _ _ hc q => floordiv_int hc.1 q (.inl (PyProof.noPylong_of_log2 (PySem.Flt.log2_lt_of (by decide) hc.2)))
def divM : MH → MV → MV → Option MV := intOp fun i j => if CDivG i j then some (.int (i.fdiv j)) else none
theorem vp_div : VP2 K (rI CDivG fun i j => .int (i.fdiv j)) divM := vp_int fun _ _ _ _ => .int _
def modM : MH → MV → MV → Option MV := intOp fun i j => if j ≠ 0 then some (.int (i.fmod j)) else none
theorem vp_mod : VP2 K (rI (fun _ j => j ≠ 0) fun i j => .int (i.fmod j)) modM := vp_int fun _ _ _ _ => .int _
def CPowG (i j : Int) : Prop := 0 ≤ j ∧ (Builtin.Int.intBits i : Int) * j ≤ 2 ^ 27
instance (i j : Int) : Decidable (CPowG i j) := inferInstanceAs (Decidable (_ ∧ _))
theorem op_powG {X : Cx} : OpR X (binaryOp .Pow) (rI CPowG fun i j => .int (i ^ j.toNat)) := opI fun _ _ _ _ _ _ _ hc q => pow_int hc.1 hc.2 q
def powM : MH → MV → MV → Option MV := intOp fun i j => if CPowG i j then some (.int (i ^ j.toNat)) else none
theorem vp_pow : VP2 K (rI CPowG fun i j => .int (i ^ j.toNat)) powM := vp_int fun _ _ _ _ => .int _
/-! < <= > >= -/
def ltL : List Nat → List Nat → Bool
  | [], [] => false
  | [], _ :: _ => true
  | _ :: _, [] => false
  | x :: xs, y :: ys => if x < y then true else if y < x then false else ltL xs ys
theorem ltL_iff (a b : List Nat) : decide (a < b) = ltL a b := by
  induction a generalizing b with
  | nil => cases b <;> simp [ltL]
  | cons x xs ih =>
    cases b with
    | nil => simp [ltL]
    | cons y ys =>
      unfold ltL
      by_cases h1 : x < y
      · simp [h1, List.cons_lt_cons_iff]
      · by_cases h2 : y < x
        · have h3 : ¬ (x = y) := by omega
          simp [h1, h2, h3, List.cons_lt_cons_iff]
        · have h3 : x = y := by omega
          subst h3
          simp only [h1, if_false, List.cons_lt_cons_iff, false_or, true_and]
          rw [← ih ys]
def cmpM (fi : Int → Int → Bool) (fs : List Nat → List Nat → Bool) : MH → MV → MV → Option MV := fun _ x y => match x, y with
  | .int i, .int j => some (.bl (fi i j))
  | .str a, .str b => some (.bl (fs a b))
  | _, _ => none
theorem vp_cmp {ri : Int → Int → V} {rs : Str → Str → V} {fi : Int → Int → Bool} {fs : List Nat → List Nat → Bool} (h1 : ∀ i j, ri i j = .bl (fi i j)) (h2 : ∀ a b, rs ⟨a.toArray⟩ ⟨b.toArray⟩ = .bl (fs a b)) :
    VP2 K (fun x y H Q => rI0 ri x y H Q ∨ ∃ i j, x = .str i ∧ y = .str j ∧ Q (rs i j) H) (cmpM fi fs) := by
  intro g hm H x y vx vy m Q rl px py e k
  unfold cmpM at e
  split at e
  · cases e
    exact .inl ⟨_, _, px.int_inv, py.int_inv, by rw [h1]; exact k g H _ (.refl rl) (.bl _)⟩
  · cases e
    exact .inr ⟨_, _, px.str_inv, py.str_inv, by rw [h2]; exact k g H _ (.refl rl) (.bl _)⟩
  · cases e
def ltM : MH → MV → MV → Option MV := cmpM (fun i j => decide (i < j)) ltL
def gtM : MH → MV → MV → Option MV := cmpM (fun i j => decide (j < i)) fun a b => ltL b a
def leM : MH → MV → MV → Option MV := cmpM (fun i j => decide (i ≤ j)) fun a b => !ltL b a
def geM : MH → MV → MV → Option MV := cmpM (fun i j => decide (j ≤ i)) fun a b => !ltL a b
abbrev rCmp (ri : Int → Int → V) (rs : Str → Str → V) : R2 := fun x y H Q => rI0 ri x y H Q ∨ ∃ i j, x = .str i ∧ y = .str j ∧ Q (rs i j) H
theorem op_ltM {X : Cx} : OpR X (compareOp .Lt) (rCmp (fun i j => .bl (decide (i < j))) fun i j => .bl (decide (i.cps.toList < j.cps.toList))) := op_lt.or op_lt_str
theorem op_gtM {X : Cx} : OpR X (compareOp .Gt) (rCmp (fun i j => .bl (decide (j < i))) fun i j => .bl (decide (j.cps.toList < i.cps.toList))) := op_gt.or op_gt_str
theorem op_leM {X : Cx} : OpR X (compareOp .LtE) (rCmp (fun i j => .bl (decide (i ≤ j))) fun i j => .bl (!decide (j.cps.toList < i.cps.toList))) := op_le.or op_le_str
theorem op_geM {X : Cx} : OpR X (compareOp .GtE) (rCmp (fun i j => .bl (decide (j ≤ i))) fun i j => .bl (!decide (i.cps.toList < j.cps.toList))) := op_ge.or op_ge_str
theorem vp_lt : VP2 K (rCmp (fun i j => .bl (decide (i < j))) fun i j => .bl (decide (i.cps.toList < j.cps.toList))) ltM := vp_cmp (fun _ _ => rfl) fun a b => by rw [← ltL_iff]
theorem vp_gt : VP2 K (rCmp (fun i j => .bl (decide (j < i))) fun i j => .bl (decide (j.cps.toList < i.cps.toList))) gtM := vp_cmp (fun _ _ => rfl) fun a b => by rw [← ltL_iff]
theorem vp_le : VP2 K (rCmp (fun i j => .bl (decide (i ≤ j))) fun i j => .bl (!decide (j.cps.toList < i.cps.toList))) leM := vp_cmp (fun _ _ => rfl) fun a b => by rw [← ltL_iff]
theorem vp_ge : VP2 K (rCmp (fun i j => .bl (decide (j ≤ i))) fun i j => .bl (!decide (i.cps.toList < j.cps.toList))) geM := vp_cmp (fun _ _ => rfl) fun a b => by rw [← ltL_iff]
/-! == != -/
def eqM : MH → MV → MV → Option MV := fun _ x y => if okD x = true ∧ okD y = true then some (.bl (meq x y)) else none
def neM : MH → MV → MV → Option MV := fun _ x y => if okD x = true ∧ okD y = true then some (.bl (!meq x y)) else none
theorem vp_eq : VP2 K (rEqD K) eqM := by
  intro g hm H x y vx vy m Q rl px py e k
  unfold eqM at e
  split at e
  · rename_i c
    cases e
    refine ⟨toD x, toD y, dpP c.1 px, dpP c.2 py, shaped_of c.1, shaped_of c.2, ?_⟩
    rw [eqv_meq 40 x y c.1 c.2]
    exact k g H _ (.refl rl) (.bl _)
  · cases e
theorem vp_ne : VP2 K (rNeD K) neM := by
  intro g hm H x y vx vy m Q rl px py e k
  unfold neM at e
  split at e
  · rename_i c
    cases e
    refine ⟨toD x, toD y, dpP c.1 px, dpP c.2 py, shaped_of c.1, shaped_of c.2, ?_⟩
    rw [eqv_meq 40 x y c.1 c.2]
    exact k g H _ (.refl rl) (.bl _)
  · cases e
/-! in, not in -/
theorem any_eqv (n : Nat) (x : MV) (hx : okV n x = true) : ∀ ys : List MV, ys.all (okV n) = true → (toDs ys).any (fun z => PyData.eqv z (toD x)) = ys.any fun z => meq z x
  | [], _ => rfl
  | y :: ys, h => by
    rw [List.all_cons, Bool.and_eq_true] at h
    simp only [toDs, List.any_cons, eqv_meq n y x h.1 hx, any_eqv n x hx ys h.2]
theorem okV_up : ∀ (n : Nat) (m : MV), okV n m = true → okV (n + 1) m = true := by
  intro n
  induction n with
  | zero =>
    intro m h
    cases m <;> simp_all [okV]
  | succ n ih =>
    intro m h
    cases m with
    | lst xs =>
      have h' : xs.all (okV n) = true := h
      show xs.all (okV (n + 1)) = true
      rw [List.all_eq_true] at h' ⊢
      exact fun x hx => ih x (h' x hx)
    | tup xs =>
      have h' : xs.all (okV n) = true := h
      show xs.all (okV (n + 1)) = true
      rw [List.all_eq_true] at h' ⊢
      exact fun x hx => ih x (h' x hx)
    | _ => simp_all [okV]
def flatM : MV → Bool
  | .non | .bl _ | .int _ | .str _ => true
  | _ => false
def inMb (x y : MV) : Option Bool := match y with
  | .lst ys => if okD x = true ∧ okV 40 (.lst ys) = true then some (ys.any fun z => meq z x) else none
  | .tup ys => if flatM x = true ∧ ys.all flatM = true then some (ys.any fun z => meq z x) else none
  | .str s => match x with
    | .str [c] => some (decide (c ∈ s))
    | _ => none
  | _ => none
def inM : MH → MV → MV → Option MV := fun _ x y => (inMb x y).map .bl
def notInM : MH → MV → MV → Option MV := fun _ x y => (inMb x y).map fun b => .bl (!b)
def rInM (K : Kf) : R2 := fun x y H Q => rInD K x y H Q ∨ rIn K false x y H Q ∨ ∃ (c : Nat) (z : Str), x = .str ⟨#[c]⟩ ∧ y = .str z ∧ Q (.bl (decide (c ∈ z.cps.toList))) H
def rNotInM (K : Kf) : R2 := fun x y H Q => rNotInD K x y H Q ∨ rIn K true x y H Q ∨ ∃ (c : Nat) (z : Str), x = .str ⟨#[c]⟩ ∧ y = .str z ∧ Q (.bl (!decide (c ∈ z.cps.toList))) H
theorem flat_rv {g : Gh} {H : Hp} {m : MV} {v : V} (h : flatM m = true) (r : RV K g H m v) : flatV v = true := by
  cases r <;> first | rfl | (exfalso; simp [flatM] at h; done)
theorem flats_rv {g : Gh} {H : Hp} : ∀ {m : List MV} {v : List V}, m.all flatM = true → RVs K g H m v → v.all flatV = true
  | _, _, _, .nil => rfl
  | _, _, h, .cons r rs => by
    rw [List.all_cons, Bool.and_eq_true] at h
    rw [List.all_cons, flat_rv h.1 r, flats_rv h.2 rs] <;> rfl
theorem eqV_meq {g g' : Gh} {H H' : Hp} {a b : MV} {v w : V} (ha : flatM a = true) (hb : flatM b = true) (ra : RV K g H a v) (rb : RV K g' H' b w) : eqV v w = meq a b := by
  cases ra <;> first | (exfalso; simp [flatM] at ha; done) | skip
  all_goals (cases rb <;> first | (exfalso; simp [flatM] at hb; done) | skip)
  all_goals simp [eqV, meq, str_beq]
theorem inV_meq {g g' : Gh} {H H' : Hp} {x : MV} {v : V} (hx : flatM x = true) (rx : RV K g' H' x v) : ∀ {ys : List MV} {vs : List V}, ys.all flatM = true → RVs K g H ys vs → inV v vs = ys.any fun z => meq z x
  | _, _, _, .nil => rfl
  | _, _, h, .cons r rs => by
    rw [List.all_cons, Bool.and_eq_true] at h
    have q := inV_meq hx rx h.2 rs
    unfold inV at q ⊢
    rw [List.any_cons, List.any_cons, q, eqV_meq h.1 hx r rx]
theorem RP.flat {g : Gh} {hm : MH} {H : Hp} {m : MV} {v : V} (h : flatM m = true) (r : RP K g hm H m v) : RV K g H m v := by
  cases r with
  | of r => exact r
  | own z ha rv nl => exfalso; simp [flatM] at h
theorem vp_inb {g : Gh} {hm : MH} {H : Hp} {x y : MV} {vx vy : V} {b : Bool} (px : RP K g hm H x vx) (py : RP K g hm H y vy) (e : inMb x y = some b) (neg : Bool) {Q : VK} (q : Q (.bl (if neg then !b else b)) H) :
    (∃ d ds, Dp K H vx d ∧ Dp K H vy (.list ds) ∧ SeqAt.shaped d = true ∧ SeqAt.shaped (.list ds) = true ∧ Q (.bl (if neg then !(ds.any fun z => PyData.eqv z d) else ds.any fun z => PyData.eqv z d)) H) ∨ rIn K neg vx vy H Q ∨
      ∃ (c : Nat) (z : Str), vx = .str ⟨#[c]⟩ ∧ vy = .str z ∧ Q (.bl (if neg then !decide (c ∈ z.cps.toList) else decide (c ∈ z.cps.toList))) H := by
  unfold inMb at e
  split at e
  · rename_i ys
    split at e
    · rename_i c
      cases e
      refine .inl ⟨toD x, toDs ys, dpP c.1 px, by have z := dpP (m := .lst ys) c.2 py; simpa only [toD] using z, shaped_of c.1, by have z := shaped_of (m := .lst ys) c.2; simpa only [toD] using z, ?_⟩
      have c2 : ys.all (okV 39) = true := c.2
      rw [any_eqv 40 x c.1 ys (by rw [List.all_eq_true] at c2 ⊢; exact fun z hz => okV_up 39 z (c2 z hz))]
      exact q
    · cases e
  · rename_i ys
    split at e
    · rename_i c
      cases e
      obtain ⟨a, vs, rfl, h1, rs⟩ := py.tup_inv
      refine .inr (.inl ⟨a, vs, rfl, .inr h1, flat_rv c.1 (px.flat c.1), flats_rv c.2 rs, ?_⟩)
      rw [inV_meq c.1 (px.flat c.1) c.2 rs]
      exact q
    · cases e
  · split at e
    · rename_i s c
      cases e
      exact .inr (.inr ⟨c, _, px.str_inv, py.str_inv, by simpa using q⟩)
    · cases e
  · cases e
theorem vp_in : VP2 K (rInM K) inM := by
  intro g hm H x y vx vy m Q rl px py e k
  unfold inM at e
  cases c : inMb x y with
  | none => rw [c] at e; cases e
  | some b =>
    rw [c] at e
    cases e
    exact vp_inb px py c false (k g H _ (.refl rl) (.bl _))
theorem vp_notIn : VP2 K (rNotInM K) notInM := by
  intro g hm H x y vx vy m Q rl px py e k
  unfold notInM at e
  cases c : inMb x y with
  | none => rw [c] at e; cases e
  | some b =>
    rw [c] at e
    cases e
    have z := vp_inb px py c true (Q := Q) (k g H _ (.refl rl) (.bl _))
    rcases z with ⟨d, ds, a1, a2, a3, a4, a5⟩ | z | z
    · exact .inl ⟨d, ds, a1, a2, a3, a4, a5⟩
    · exact .inr (.inl z)
    · exact .inr (.inr z)
theorem op_inM {X : Cx} (hu : X.A.units + 65 < cLine) : OpR X (compareOp .In) (rInM X.K) := (op_inD hu).or (op_in_seq.or op_in_sign)
theorem op_notInM {X : Cx} (hu : X.A.units + 65 < cLine) : OpR X (compareOp .NotIn) (rNotInM X.K) := (op_notInD hu).or (op_notIn_seq.or op_notIn_sign)
end
end Mi
end P_M3
section P_M4
set_option Elab.async false
set_option linter.all false
set_option maxRecDepth 100000
set_option maxHeartbeats 4000000
/-! M4: names, constants, tests, displays, subscripts, slices -/
namespace Mi
open PySem PySem.Spec PyProof.Rows L2

/-! ### names, constants -/
def varE (i : Nat) : EM := fun σ h => match σ[i]? with
  | some (.val m) => .ok m h
  | _ => .no
def peekE (i : Nat) : EM := fun σ h => match σ[i]? with
  | some (.val m) => .ok m h
  | some (.own xs) => .ok (.lst xs) h
  | _ => .no
def cE (m : MV) : EM := fun _ h => .ok m h
section
variable {K : Kf} {W : WX} {X : Cx}
theorem rd_var {i : Nat} (σ : L2.St) (H : Hp) (Q : VK) (h : rdE K W (varE i) σ H Q) : tVar i σ H Q := by
  obtain ⟨g, σm, hm, rl, R, p⟩ := h
  unfold varE at p
  split at p
  · rename_i m e
    obtain ⟨v, h1, h2⟩ := R.val e
    exact ⟨v, h1, p g H (.refl rl) v h2⟩
  · exact p.elim
theorem rd_peek {i : Nat} (σ : L2.St) (H : Hp) (Q : VK) (h : rdP K W (peekE i) σ H Q) : tVar i σ H Q := by
  obtain ⟨g, σm, hm, rl, R, p⟩ := h
  unfold peekE at p
  split at p
  · rename_i m e
    obtain ⟨v, h1, h2⟩ := R.val e
    exact ⟨v, h1, p g H (.refl rl) v (.of h2)⟩
  · rename_i xs e
    obtain ⟨a, vs, h1, z, h2, h3, h4, h5⟩ := R.own e
    exact ⟨_, h1, p g H (.refl rl) _ (.own z h2 h3 h5)⟩
  · exact p.elim
theorem rd_c {m : MV} {v : V} (hv : ∀ g H, RV K g H m v) (σ : L2.St) (H : Hp) (Q : VK) (h : rdE K W (cE m) σ H Q) : tC v σ H Q := by
  obtain ⟨g, σm, hm, rl, R, p⟩ := h
  exact p g H (.refl rl) v (hv g H)
theorem se_int {i : Int} {j pos} : PE X (.Constant (.int i) j pos) (rdE X.K W (cE (.int i))) := imp_e pe_int (rd_c fun _ _ => .int i)
theorem se_bl {b : Bool} {j pos} : PE X (.Constant (.bool b) j pos) (rdE X.K W (cE (.bl b))) := imp_e pe_bl (rd_c fun _ _ => .bl b)
theorem se_non {j pos} : PE X (.Constant .none j pos) (rdE X.K W (cE .non)) := imp_e pe_non (rd_c fun _ _ => .non)
theorem se_str {x : Str} {l : List Nat} {j pos} (h : x.cps.toList = l) : PE X (.Constant (.str x) j pos) (rdE X.K W (cE (.str l))) := imp_e pe_str (rd_c fun _ _ => by
  have e : x = ⟨l.toArray⟩ := by
    cases x with
    | mk c => rw [← h]
  rw [e]
  exact .str l)
/-- a module's constant: a tuple of ints -/
theorem se_glob {x : Str} {a : Addr} {vs : List V} {xs : List MV} {pos : Pos} (hg : Gl X x) (hm : X.mg x = some (.ref a)) (hd : (x == ("__debug__" : Str)) = false) (w : WrT X.K a vs) (r : ∀ g H, RVs X.K g H xs vs) :
    PE X (.Name x pos) (rdE X.K W (cE (.tup xs))) := imp_e (pe_glob (v := .ref a) hg hm rfl hd) (rd_c fun g H => .tupK w (r g H))
end

/-! ### one value -/
def VP1 (K : Kf) (r : V → Hp → VK → Prop) (op : MH → MV → Option MV) : Prop := ∀ (g : Gh) (hm : MH) (H : Hp) (x : MV) (vx : V) (m : MV) (Q : VK), Rel K g hm H → RP K g hm H x vx → op hm x = some m →
  (∀ g' H' v, Ext K g hm H g' hm H' → RV K g' H' m v → Q v H') → r vx H Q
def un1 (op : MH → MV → Option MV) (fa : EM) : EM := bindE fa fun x => fun _ h => optR (op h x) h
section
variable {K : Kf} {W : WX} {X : Cx} {a b c : Expr} {pos : Pos}
theorem fin1 {σ : L2.St} {H : Hp} {r : V → Hp → VK → Prop} {op : MH → MV → Option MV} {x : MV} {vx : V} {Q : VK} (hv : VP1 K r op)
    (h : Mid K W σ H [x] [vx] (fun _ h => optR (op h x) h) fun m g' _ H' => ∀ v, RV K g' H' m v → Q v H') : r vx H Q := by
  obtain ⟨g, σm, hm, rl, R, ps, p⟩ := h
  cases ps with
  | cons px ps =>
    have p : Post K W g hm σ H (optR (op hm x) hm) fun m g' _ H' => ∀ v, RV K g' H' m v → Q v H' := p
    cases e : op hm x with
    | none => rw [e] at p; exact False.elim p
    | some m =>
      rw [e] at p
      exact hv g hm H x vx m Q rl px e fun g' H' v ex rv => p g' H' ex v rv
theorem mid1 {r : V → Hp → VK → Prop} {op : MH → MV → Option MV} {fa : EM} (hv : VP1 K r op) (σ : L2.St) (H : Hp) (Q : VK) (h : rdE K W (un1 op fa) σ H Q) : rdP K W fa σ H fun v H1 => r v H1 Q :=
  rdP_mono (Mid.start h).step fun vx H1 ⟨x, c⟩ => fin1 hv c
theorem se_un {op : UnaryOp} {r : V → Hp → VK → Prop} {f : MH → MV → Option MV} {fa : EM} (ho : UnR X (unaryOp op) r) (hv : VP1 X.K r f) (ha : PE X a (rdP X.K W fa)) : PE X (.UnaryOp op a pos) (rdE X.K W (un1 f fa)) :=
  imp_e (pe_un ho ha) (mid1 hv)
def negM : MH → MV → Option MV := fun _ x => match x with
  | .int i => some (.int (-i))
  | _ => none
theorem vp_neg : VP1 K (rU fun i => .int (-i)) negM := by
  intro g hm H x vx m Q rl px e k
  unfold negM at e
  split at e
  · cases e
    exact ⟨_, px.int_inv, k g H _ (.refl rl) (.int _)⟩
  · cases e
/-! is None -/
def isN : MV → Bool
  | .non => true
  | _ => false
def isNM : MH → MV → Option MV := fun _ x => some (.bl (isN x))
def notNM : MH → MV → Option MV := fun _ x => some (.bl (!isN x))
theorem isN_rv {g : Gh} {hm : MH} {H : Hp} {m : MV} {v : V} (r : RP K g hm H m v) : decide (v = .non) = isN m := by
  cases r with
  | of r => cases r <;> simp [isN]
  | own z ha rv nl => simp [isN]
theorem rd_isN {fa : EM} (σ : L2.St) (H : Hp) (Q : VK) (h : rdE K W (un1 isNM fa) σ H Q) : tIsN (rdP K W fa) σ H Q :=
  rdP_mono (Mid.start h).step fun vx H1 ⟨x, c⟩ => by
    obtain ⟨g, σm, hm, rl, R, ps, p⟩ := c
    cases ps with
    | cons px ps =>
      show Q (.bl (decide (vx = .non))) H1
      rw [isN_rv px]
      exact p g H1 (.refl rl) _ (.bl _)
theorem rd_notN {fa : EM} (σ : L2.St) (H : Hp) (Q : VK) (h : rdE K W (un1 notNM fa) σ H Q) : tNotN (rdP K W fa) σ H Q :=
  rdP_mono (Mid.start h).step fun vx H1 ⟨x, c⟩ => by
    obtain ⟨g, σm, hm, rl, R, ps, p⟩ := c
    cases ps with
    | cons px ps =>
      show Q (.bl (!decide (vx = .non))) H1
      rw [isN_rv px]
      exact p g H1 (.refl rl) _ (.bl _)
theorem se_isN {j pos'} {fa : EM} (ha : PE X a (rdP X.K W fa)) : PE X (.Compare a [.Is] [.Constant .none j pos'] pos) (rdE X.K W (un1 isNM fa)) := imp_e (pe_cmp (pc_isN ha)) rd_isN
theorem se_notN {j pos'} {fa : EM} (ha : PE X a (rdP X.K W fa)) : PE X (.Compare a [.IsNot] [.Constant .none j pos'] pos) (rdE X.K W (un1 notNM fa)) := imp_e (pe_cmp (pc_notN ha)) rd_notN
end

/-! ### tests, and, or, not, if -/
def tstE (f : EM) : TM := bindE f fun x => fun _ h => match x with
  | .bl b => .ok b h
  | _ => .no
def andE (fa fb : EM) : EM := bindE fa fun x => match x with
  | .bl true => fb
  | .bl false => cE (.bl false)
  | _ => fun _ _ => .no
def orE (fa fb : EM) : EM := bindE fa fun x => match x with
  | .bl false => fb
  | .bl true => cE (.bl true)
  | _ => fun _ _ => .no
def notM : MH → MV → Option MV := fun _ x => match x with
  | .bl b => some (.bl (!b))
  | _ => none
def andT (fa fb : TM) : TM := bindE fa fun x => if x = true then fb else fun _ h => .ok false h
def orT (fa fb : TM) : TM := bindE fa fun x => if x = true then fun _ h => .ok true h else fb
def notT (fa : TM) : TM := bindE fa fun x => fun _ h => .ok (!x) h
def ifE (c : TM) (fa fb : EM) : EM := bindE c fun x => if x = true then fa else fb
section
variable {K : Kf} {W : WX} {X : Cx} {a b c : Expr} {pos : Pos} {rest : List Expr}
/-- the value's reading from the looked-at one -/
theorem rdE_of_P {f : EM} {σ : L2.St} {H : Hp} {Q : VK} (h : rdP K W f σ H Q) : rdE K W f σ H Q :=
  let ⟨g, σm, hm, rl, R, p⟩ := h
  ⟨g, σm, hm, rl, R, p.mono fun _ _ _ _ _ q v rv => q v (.of rv)⟩
theorem rd_tst {f : EM} (σ : L2.St) (H : Hp) (Q : Bool → Hp → Prop) (h : rdT K W (tstE f) σ H Q) : tB (rdE K W f) σ H Q :=
  rdE_of_P (rdP_mono (Mid.start h).step fun vx H1 ⟨x, c⟩ => by
    obtain ⟨g, σm, hm, rl, R, ps, p⟩ := c
    cases ps with
    | cons px ps =>
      cases x with
      | bl b => exact ⟨b, px.bl_inv, p g H1 (.refl rl)⟩
      | _ => exact False.elim p)
theorem st_val {f : EM} (h : PE X a (rdE X.K W f)) (he : ∀ whole, isTrue a X.env whole = (do let v ← whole; standAt a.pos; holding [v] (truthy v)) := by intro _; rfl) : PT X a (rdT X.K W (tstE f)) := imp_t (pt_val h he) rd_tst
theorem st_cmp {op : CmpOp} {r : R2} {f : MH → MV → MV → Option MV} {fa fb : EM} (ho : OpR X (compareOp op) r) (hv : VP2 X.K r f) (hm : behindInMarks op b = false) (ha : PE X a (rdP X.K W fa)) (hb : PE X b (rdP X.K W fb)) :
    PT X (.Compare a [op] [b] pos) (rdT X.K W (tstE (bin2 f fa fb))) := imp_t (pt_cmpR ho ha hb hm) fun σ H Q h => by
  have z := rd_tst σ H Q h
  exact mid2 hv σ H _ z
theorem st_isN {j pos'} {fa : EM} (ha : PE X a (rdP X.K W fa)) : PT X (.Compare a [.Is] [.Constant .none j pos'] pos) (rdT X.K W (tstE (un1 isNM fa))) :=
  imp_t (pt_cmp (pc_isN ha)) fun σ H Q h => rd_isN σ H _ (rd_tst σ H Q h)
theorem st_notN {j pos'} {fa : EM} (ha : PE X a (rdP X.K W fa)) : PT X (.Compare a [.IsNot] [.Constant .none j pos'] pos) (rdT X.K W (tstE (un1 notNM fa))) :=
  imp_t (pt_cmp (pc_notN ha)) fun σ H Q h => rd_notN σ H _ (rd_tst σ H Q h)
theorem rd_andT {fa fb : TM} (σ : L2.St) (H : Hp) (Q : Bool → Hp → Prop) (h : rdT K W (andT fa fb) σ H Q) : tAnd (rdT K W fa) (rdT K W fb) σ H Q :=
  rdT_mono (Mid.start h).stepT fun b H1 c => by
    obtain ⟨g, σm, hm, rl, R, ps, p⟩ := c
    cases b with
    | true => exact ⟨g, σm, hm, rl, R, p⟩
    | false => exact p g H1 (.refl rl)
theorem rd_orT {fa fb : TM} (σ : L2.St) (H : Hp) (Q : Bool → Hp → Prop) (h : rdT K W (orT fa fb) σ H Q) : tOr (rdT K W fa) (rdT K W fb) σ H Q :=
  rdT_mono (Mid.start h).stepT fun b H1 c => by
    obtain ⟨g, σm, hm, rl, R, ps, p⟩ := c
    cases b with
    | false => exact ⟨g, σm, hm, rl, R, p⟩
    | true => exact p g H1 (.refl rl)
theorem rd_notT {fa : TM} (σ : L2.St) (H : Hp) (Q : Bool → Hp → Prop) (h : rdT K W (notT fa) σ H Q) : tNot (rdT K W fa) σ H Q :=
  rdT_mono (Mid.start h).stepT fun b H1 c => by
    obtain ⟨g, σm, hm, rl, R, ps, p⟩ := c
    exact p g H1 (.refl rl)
theorem sw_and1 {fa : TM} (h : PT X a (rdT X.K W fa)) : PW X (.BoolOp .And [a] pos) (rdT X.K W fa) := pw_and1 h
theorem sw_or1 {fa : TM} (h : PT X a (rdT X.K W fa)) : PW X (.BoolOp .Or [a] pos) (rdT X.K W fa) := pw_or1 h
theorem sw_and {fa fb : TM} (ha : PT X a (rdT X.K W fa)) (hb : PW X (.BoolOp .And (b :: rest) pos) (rdT X.K W fb)) : PW X (.BoolOp .And (a :: b :: rest) pos) (rdT X.K W (andT fa fb)) := imp_w (pw_and ha hb) rd_andT
theorem sw_or {fa fb : TM} (ha : PT X a (rdT X.K W fa)) (hb : PW X (.BoolOp .Or (b :: rest) pos) (rdT X.K W fb)) : PW X (.BoolOp .Or (a :: b :: rest) pos) (rdT X.K W (orT fa fb)) := imp_w (pw_or ha hb) rd_orT
theorem st_not {fa : TM} (ha : PT X a (rdT X.K W fa)) : PT X (.UnaryOp .Not a pos) (rdT X.K W (notT fa)) := imp_t (pt_not ha) rd_notT
theorem rd_andE {fa fb : EM} (σ : L2.St) (H : Hp) (Q : VK) (h : rdE K W (andE fa fb) σ H Q) : tAndV (rdE K W fa) (rdE K W fb) σ H Q :=
  rdE_of_P (rdP_mono (Mid.start h).step fun vx H1 ⟨x, c⟩ => by
    obtain ⟨g, σm, hm, rl, R, ps, p⟩ := c
    cases ps with
    | cons px ps =>
      cases x with
      | bl b =>
        refine ⟨b, px.bl_inv, ?_⟩
        cases b with
        | true => exact iteT ⟨g, σm, hm, rl, R, p⟩
        | false => exact iteF (p g H1 (.refl rl) _ (.bl _))
      | _ => exact False.elim p)
theorem rd_orE {fa fb : EM} (σ : L2.St) (H : Hp) (Q : VK) (h : rdE K W (orE fa fb) σ H Q) : tOrV (rdE K W fa) (rdE K W fb) σ H Q :=
  rdE_of_P (rdP_mono (Mid.start h).step fun vx H1 ⟨x, c⟩ => by
    obtain ⟨g, σm, hm, rl, R, ps, p⟩ := c
    cases ps with
    | cons px ps =>
      cases x with
      | bl b =>
        refine ⟨b, px.bl_inv, ?_⟩
        cases b with
        | false => exact iteF ⟨g, σm, hm, rl, R, p⟩
        | true => exact iteT (p g H1 (.refl rl) _ (.bl _))
      | _ => exact False.elim p)
theorem se_one {op} {f : EM} (h : PE X a (rdE X.K W f)) : PE X (.BoolOp op [a] pos) (rdE X.K W f) := pe_one h
theorem se_and {fa fb : EM} (ha : PE X a (rdE X.K W fa)) (hb : PE X (.BoolOp .And (b :: rest) pos) (rdE X.K W fb)) : PE X (.BoolOp .And (a :: b :: rest) pos) (rdE X.K W (andE fa fb)) := imp_e (pe_and ha hb) rd_andE
theorem se_or {fa fb : EM} (ha : PE X a (rdE X.K W fa)) (hb : PE X (.BoolOp .Or (b :: rest) pos) (rdE X.K W fb)) : PE X (.BoolOp .Or (a :: b :: rest) pos) (rdE X.K W (orE fa fb)) := imp_e (pe_or ha hb) rd_orE
theorem rd_notE {fa : EM} (σ : L2.St) (H : Hp) (Q : VK) (h : rdE K W (un1 notM fa) σ H Q) : tNotV (rdE K W fa) σ H Q :=
  rdE_of_P (rdP_mono (Mid.start h).step fun vx H1 ⟨x, c⟩ => by
    obtain ⟨g, σm, hm, rl, R, ps, p⟩ := c
    cases ps with
    | cons px ps =>
      cases x with
      | bl b => exact ⟨b, px.bl_inv, p g H1 (.refl rl) _ (.bl _)⟩
      | _ => exact False.elim p)
theorem se_not {fa : EM} (ha : PE X a (rdE X.K W fa)) : PE X (.UnaryOp .Not a pos) (rdE X.K W (un1 notM fa)) := imp_e (pe_not ha) rd_notE
theorem rd_if {fc : TM} {fa fb : EM} (σ : L2.St) (H : Hp) (Q : VK) (h : rdE K W (ifE fc fa fb) σ H Q) : tIf (rdT K W fc) (rdE K W fa) (rdE K W fb) σ H Q :=
  rdT_mono (Mid.start h).stepT fun b H1 c => by
    obtain ⟨g, σm, hm, rl, R, ps, p⟩ := c
    cases b with
    | true => exact ⟨g, σm, hm, rl, R, p⟩
    | false => exact ⟨g, σm, hm, rl, R, p⟩
theorem se_if {fc : TM} {fa fb : EM} (hc : PT X c (rdT X.K W fc)) (ha : PE X a (rdE X.K W fa)) (hb : PE X b (rdE X.K W fb)) : PE X (.IfExp c a b pos) (rdE X.K W (ifE fc fa fb)) := imp_e (pe_ifExp hc ha hb) rd_if
/-! a op b op c -/
def chainE (f f' : MH → MV → MV → Option MV) (fa fb fc : EM) : EM := bindE fa fun x => bindE fb fun y => fun σ h => bindR (optR (f h x y) h) fun z h1 => match z with
  | .bl true => bindR (fc σ h1) fun w h2 => optR (f' h2 y w) h2
  | .bl false => .ok (.bl false) h1
  | _ => .no
end

/-! ### argument lists, displays -/
def nilA : OM := fun _ h => .ok [] h
def consA (f : EM) (fs : OM) : OM := bindE f fun x => bindE fs fun xs => fun _ h => .ok (x :: xs) h
section
variable {K : Kf} {W : WX} {X : Cx} {e : Expr} {es : List Expr} {pos : Pos}
theorem sa_nil : PA X [] (rdA X.K W nilA) := imp_a pa_nil fun σ H Q h => by
  obtain ⟨g, σm, hm, rl, R, p⟩ := h
  exact p g H (.refl rl) [] .nil
theorem rd_cons {f : EM} {fs : OM} (σ : L2.St) (H : Hp) (Q : List V → Hp → Prop) (h : rdA K W (consA f fs) σ H Q) : tCons (rdE K W f) (rdA K W fs) σ H Q := by
  obtain ⟨g, σm, hm, rl, R, p⟩ := h
  refine ⟨g, σm, hm, rl, R, (Post.bind rl p).mono fun x g1 hm1 H1 e1 q v rv => ?_⟩
  refine ⟨g1, σm, hm1, e1.rel, R.ext rl e1, (Post.bind e1.rel q).mono fun xs g2 hm2 H2 e2 q2 vs rvs => ?_⟩
  exact q2 g2 H2 (.refl e2.rel) _ (.cons (rv.up (e2.up e1.rel)) rvs)
theorem sa_cons {f : EM} {fs : OM} (ha : PE X e (rdE X.K W f)) (hr : PA X es (rdA X.K W fs)) (hs : starEach (e :: es) X.env = (false, eval e X.env) :: starEach es X.env := by rfl) : PA X (e :: es) (rdA X.K W (consA f fs)) :=
  imp_a (pa_cons ha hr hs) rd_cons
def tupE (fs : OM) : EM := bindE fs fun xs => fun _ h => if xs.length ≤ zl then .ok (.tup xs) h else .no
def lstO (fs : OM) : OM := bindE fs fun xs => fun _ h => if xs.length ≤ zl then .ok xs h else .no
theorem rd_tup {fs : OM} (σ : L2.St) (H : Hp) (Q : VK) (h : rdE K W (tupE fs) σ H Q) : tTup (rdA K W fs) σ H Q := by
  obtain ⟨g, σm, hm, rl, R, p⟩ := h
  refine ⟨g, σm, hm, rl, R, (Post.bind rl p).mono fun xs g1 hm1 H1 e1 q vs rvs => ?_⟩
  have q : Post K W g1 hm1 σ H1 (if xs.length ≤ zl then .ok (.tup xs) hm1 else .no) fun m g' _ H' => ∀ v, RV K g' H' m v → Q v H' := q
  by_cases c : xs.length ≤ zl
  · rw [if_pos c] at q
    refine ⟨by rw [← rvs.length, zl_eq]; exact c, fun a ha => ?_⟩
    have ex := Ext.fz (o := .tup vs) e1.rel ha
    exact q _ _ ex _ (.tup (.inr rfl) upd_same (by rw [zl_eq]; exact c) (rvs.up (ex.up e1.rel)))
  · rw [if_neg c] at q
    exact q.elim
theorem rd_lst {fs : OM} (σ : L2.St) (H : Hp) (Q : VK) (h : rdO K W (lstO fs) σ H Q) : tLst (rdA K W fs) σ H Q := by
  obtain ⟨g, σm, hm, rl, R, p⟩ := h
  refine ⟨g, σm, hm, rl, R, ?_⟩
  unfold lstO bindE at p
  cases c0 : fs σm hm with
  | ok xs hm1 =>
    rw [c0] at p
    intro g1 H1 e1 vs rvs
    have p : Post K W g hm σ H (if xs.length ≤ zl then .ok xs hm1 else .no) _ := p
    by_cases c : xs.length ≤ zl
    · rw [if_pos c] at p
      refine ⟨by rw [← rvs.length, zl_eq]; exact c, fun a ha => ?_⟩
      have ex := Ext.lay (o := .lst vs) e1.rel ha
      have h0 : H a = none := by
        cases q : H a with
        | none => rfl
        | some o => exact absurd ha (e1.stay a (by rw [q]; intro z; cases z))
      refine p g1 _ (e1.trans rl ex) a vs h0 upd_same (by rw [zl_eq]; exact c) (rvs.up (ex.up e1.rel)) (fun f => e1.rel.fs a f ha) fun ⟨n, l, ea⟩ => ?_
      cases q : hm1.get n with
      | none => exact l q
      | some o => exact (e1.rel.ob n o q).has (ea ▸ ha)
    · rw [if_neg c] at p
      exact p.elim
  | ex c m h' =>
    rw [c0] at p
    exact p
  | no =>
    rw [c0] at p
    exact p
theorem se_tup {fs : OM} {x1} (h : PA X es (rdA X.K W fs)) : PE X (.Tuple es x1 pos) (rdE X.K W (tupE fs)) := imp_e (pe_tup h) rd_tup
theorem so_lst {fs : OM} (h : PA X es (rdA X.K W fs)) : PE X (.List es pos) (rdO X.K W (lstO fs)) := imp_e (pe_lst h) rd_lst
end

/-! ### a[i], a[i:j] -/
def ixL (xs : List MV) (i : Int) : Option MV := atI xs i
def ixM : MH → MV → MV → Option MV := fun hm x y => match y with
  | .int i => (match x with
    | .lst xs => atI xs i
    | .tup xs => atI xs i
    | .scr xs => atI xs i
    | .ref n => (match hm.get n with
      | some (.lst xs) => atI xs i
      | none => none)
    | .str s => if s.length ≤ zl then (atI s i).map fun c => .str [c] else none
    | _ => none)
  | _ => none
theorem RVs.at {K : Kf} {g : Gh} {H : Hp} {xs : List MV} {vs : List V} {i : Int} {m : MV} (r : RVs K g H xs vs) (h : atI xs i = some m) : ∃ v, atI vs i = some v ∧ RV K g H m v := by
  unfold atI at h ⊢
  rw [← r.length]
  cases e : ixN xs.length i with
  | none => rw [e] at h; cases h
  | some j =>
    rw [e] at h
    exact r.get (i := j) h
section
variable {K : Kf}
theorem RP.scr_inv {g : Gh} {hm : MH} {H : Hp} {xs : List MV} {v : V} (r : RP K g hm H (.scr xs) v) : ∃ a vs, v = .ref a ∧ SqL K H a vs ∧ xs.length ≤ sizeLine ∧ RVs K g H xs vs := by
  cases r with
  | of r => cases r with
    | scr h z rs =>
      rcases h with ⟨f, o, h⟩ | h
      · exact ⟨_, _, rfl, .inl (.inr ⟨o, h⟩), z, rs⟩
      · exact ⟨_, _, rfl, .inr h, z, rs⟩
theorem RP.ref_inv {g : Gh} {hm : MH} {H : Hp} {n : Nat} {v : V} (r : RP K g hm H (.ref n) v) : v = .ref (g.ρ n) := by
  cases r with
  | of r => cases r; rfl
theorem vp_ix : VP2 K (rIx K) ixM := by
  intro g hm H x y vx vy m Q rl px py e k
  unfold ixM at e
  split at e
  · rename_i i
    have ey := py.int_inv
    split at e
    · obtain ⟨a, vs, rfl, h1, z, rs⟩ := px.lst_inv
      obtain ⟨v, h2, rv⟩ := rs.at e
      exact .inl ⟨a, vs, i, v, rfl, ey, SqL.of h1, h2, k g H v (.refl rl) rv⟩
    · obtain ⟨a, vs, rfl, h1, rs⟩ := px.tup_inv
      obtain ⟨v, h2, rv⟩ := rs.at e
      exact .inr (.inl ⟨a, vs, i, v, rfl, ey, h1, h2, k g H v (.refl rl) rv⟩)
    · obtain ⟨a, vs, rfl, h1, z, rs⟩ := px.scr_inv
      obtain ⟨v, h2, rv⟩ := rs.at e
      exact .inl ⟨a, vs, i, v, rfl, ey, h1, h2, k g H v (.refl rl) rv⟩
    · split at e
      · rename_i n _ xs c
        obtain ⟨z, vs, h1, rs⟩ := rl.ob n _ c
        obtain ⟨v, h2, rv⟩ := rs.at e
        exact .inl ⟨_, vs, i, v, px.ref_inv, ey, SqL.of h1, h2, k g H v (.refl rl) rv⟩
      · cases e
    · split at e
      · rename_i s c
        cases q : atI s i with
        | none => rw [q] at e; cases e
        | some d =>
          rw [q] at e
          cases e
          exact .inr (.inr ⟨_, i, d, px.str_inv, ey, by rw [str_len, zl_eq]; exact c, by simpa using q, k g H _ (.refl rl) (.str _)⟩)
      · cases e
    · cases e
  · cases e
end
end Mi
end P_M4
section P_M5
set_option Elab.async false
set_option linter.all false
set_option maxRecDepth 100000
set_option maxHeartbeats 4000000
/-! M5: statements, targets, loops, comprehensions -/
namespace Mi
open PySem PySem.Spec PyProof.Rows L2

/-! ### the state of a frame: its ground (where it began) and now -/
structure Gd where
  g : Gh
  hm : MH
  H : Hp
  u : Gh → Hp → Prop
  uc : ∀ g H g' H', u g H → Up g H g' H' → u g' H'
structure StS (K : Kf) (B : Gd) (g : Gh) (hm : MH) (H : Hp) (σm : Sl) (σ : L2.St) : Prop where
  gr : Rel K B.g B.hm B.H
  ex : Ext K B.g B.hm B.H g hm H
  en : REnv K g hm H σm σ
  ow : ∀ (i : Nat) (xs : List MV) (a : Addr), σm[i]? = some (.own xs) → σ[i]? = some (some (.ref a)) → B.H a = none
  up : B.u g H
/-- what is left behind a statement -/
def PostS (K : Kf) (W : WX) (B : Gd) (r : Fl) (D : Ends) : Prop := match r with
  | .nx σm hm => ∀ g H σ, StS K B g hm H σm σ → D.nx σ H
  | .bk σm hm => ∀ g H σ, StS K B g hm H σm σ → D.bk σ H
  | .ct σm hm => ∀ g H σ, StS K B g hm H σm σ → D.ct σ H
  | .rt m hm => ∀ g H v, Ext K B.g B.hm B.H g hm H → RV K g H m v → D.rt v H
  | .ex c m σm hm => ∀ g H σ cls d, StS K B g hm H σm σ → RX K g H c m cls d → W cls d σ H
  | .no => False
def rdS (K : Kf) (W : WX) (f : SM) : TS := fun D σ H => ∃ B g hm σm, StS K B g hm H σm σ ∧ PostS K W B (f σm hm) D
section
variable {K : Kf} {W : WX} {B : Gd} {g g' : Gh} {hm hm' : MH} {H H' : Hp} {σm : Sl} {σ : L2.St}
theorem StS.rel (s : StS K B g hm H σm σ) : Rel K g hm H := s.ex.rel
/-- behind an expression -/
theorem StS.ext (s : StS K B g hm H σm σ) (e : Ext K g hm H g' hm' H') : StS K B g' hm' H' σm σ :=
  ⟨s.gr, s.ex.trans s.gr e, s.en.ext s.rel e, s.ow, B.uc _ _ _ _ s.up (e.up s.rel)⟩
theorem StS.set_val (s : StS K B g hm H σm σ) (i : Nat) {m : MV} {v : V} (r : RV K g H m v) : StS K B g hm H (σm.set i (.val m)) (σ.set i (some v)) := by
  refine ⟨s.gr, s.ex, s.en.set_val i r, fun j xs a h1 h2 => ?_, s.up⟩
  rcases get_set h1 with ⟨_, z, _⟩ | ⟨c, h1⟩
  · cases z
  · rw [List.getElem?_set_ne (Ne.symm c)] at h2
    exact s.ow j xs a h1 h2
theorem StS.set_un (s : StS K B g hm H σm σ) (i : Nat) (o : Option V) : StS K B g hm H (σm.set i .un) (σ.set i o) := by
  refine ⟨s.gr, s.ex, s.en.set_un i o, fun j xs a h1 h2 => ?_, s.up⟩
  rcases get_set h1 with ⟨_, z, _⟩ | ⟨c, h1⟩
  · cases z
  · rw [List.getElem?_set_ne (Ne.symm c)] at h2
    exact s.ow j xs a h1 h2
/-- forgetting a slot -/
theorem StS.drop (s : StS K B g hm H σm σ) (i : Nat) : StS K B g hm H (σm.set i .un) σ := by
  refine ⟨s.gr, s.ex, ⟨by simp [s.en.len], fun j t h => ?_, fun j k xs ys h1 h2 ne => ?_⟩, fun j xs a h1 h2 => ?_, s.up⟩
  · rcases get_set h with ⟨rfl, rfl, hl⟩ | ⟨c, h⟩
    · have hl' : j < σ.length := by rw [← s.en.len]; exact hl
      exact ⟨σ[j], List.getElem?_eq_getElem hl', trivial⟩
    · exact s.en.sl j t h
  · rcases get_set h1 with ⟨_, z, _⟩ | ⟨_, h1⟩
    · cases z
    · rcases get_set h2 with ⟨_, z, _⟩ | ⟨_, h2⟩
      · cases z
      · exact s.en.ap j k xs ys h1 h2 ne
  · rcases get_set h1 with ⟨_, z, _⟩ | ⟨_, h1⟩
    · cases z
    · exact s.ow j xs a h1 h2
/-- a slot's own list is frozen -/
theorem StS.freeze (s : StS K B g hm H σm σ) {i : Nat} {xs : List MV} (h : σm[i]? = some (.own xs)) : ∃ g', StS K B g' hm H (σm.set i (.val (.lst xs))) σ := by
  obtain ⟨a, vs, h1, z, h2, h3, nf, nl⟩ := s.en.own h
  have h0 := s.ow i xs a h h1
  have h2' : H a ≠ none := by rw [h2]; intro z; cases z
  obtain ⟨e2, u⟩ := Ext.fzo s.ex h0 h2' nl
  have hi : i < σm.length := (List.getElem?_eq_some_iff.mp h).1
  refine ⟨g.fz a, s.gr, e2, ⟨by simp [s.en.len], fun j t hj => ?_, fun j k ys ws h1 h2 ne => ?_⟩, fun j ys b h1 h2 => ?_, B.uc _ _ _ _ s.up u⟩
  · rcases get_set hj with ⟨rfl, rfl, hl⟩ | ⟨c, hj⟩
    · exact ⟨_, h1, .lst (.inr rfl) h2 z (h3.up u)⟩
    · obtain ⟨o, q1, q2⟩ := s.en.sl j t hj
      refine ⟨o, q1, ?_⟩
      cases t with
      | un => trivial
      | val m =>
        cases o with
        | none => exact q2
        | some v => exact RV.up u q2
      | own ys =>
        cases o with
        | none => exact q2
        | some v =>
          obtain ⟨z2, b, ws, rfl, hb, rb, nf2, nl2⟩ := q2
          refine ⟨z2, b, ws, rfl, hb, rb.up u, fun f => ?_, nl2⟩
          rcases f with f | f
          · exact nf2 f
          · exact s.en.ap j i ys xs hj h c (by rw [q1, h1, f])
  · rcases get_set h1 with ⟨_, z, _⟩ | ⟨_, h1⟩
    · cases z
    · rcases get_set h2 with ⟨_, z, _⟩ | ⟨_, h2⟩
      · cases z
      · exact s.en.ap j k ys ws h1 h2 ne
  · rcases get_set h1 with ⟨_, z, _⟩ | ⟨_, h1⟩
    · cases z
    · exact s.ow j ys b h1 h2
/-- a new list becomes a slot's own -/
theorem StS.set_own (s : StS K B g hm H σm σ) (i : Nat) {a : Addr} {xs : List MV} {vs : List V} (h0 : B.H a = none) (z : xs.length ≤ sizeLine) (h : H a = some (.lst vs)) (r : RVs K g H xs vs) (nf : ¬ g.F a) (nl : ¬ Live g hm a)
    (ne : ∀ (j : Nat) (ys : List MV), j ≠ i → σm[j]? = some (.own ys) → σ[j]? ≠ some (some (.ref a))) : StS K B g hm H (σm.set i (.own xs)) (σ.set i (some (.ref a))) := by
  refine ⟨s.gr, s.ex, s.en.set_own i z h r nf nl ne, fun j ys b h1 h2 => ?_, s.up⟩
  rcases get_set h1 with ⟨rfl, e, hl⟩ | ⟨c, h1⟩
  · rw [List.getElem?_set_self (by rw [← s.en.len]; exact hl)] at h2
    cases h2
    exact h0
  · rw [List.getElem?_set_ne (Ne.symm c)] at h2
    exact s.ow j ys b h1 h2
/-- a slot's own list is changed in place -/
theorem StS.mut_own (s : StS K B g hm H σm σ) {i : Nat} {a : Addr} {xs ys : List MV} {vs ws : List V} (h : σm[i]? = some (.own xs)) (h1 : σ[i]? = some (some (.ref a))) (h2 : H a = some (.lst vs)) (nf : ¬ g.F a) (nl : ¬ Live g hm a)
    (z : ys.length ≤ sizeLine) (r : RVs K g H ys ws) : StS K B g hm (upd H a (.lst ws)) (σm.set i (.own ys)) σ := by
  have h0 := s.ow i xs a h h1
  have h2' : H a ≠ none := by rw [h2]; intro z; cases z
  have u : Up g H g (upd H a (.lst ws)) := ⟨Nat.le_refl _, fun _ _ => rfl, fun _ f => f, fun b o f e => by
    rw [upd_ne (fun q : b = a => nf (by rw [← q]; exact f))]; exact e⟩
  have rel' : Rel K g hm (upd H a (.lst ws)) := by
    refine ⟨s.rel.nx, s.rel.lt, s.rel.inj, s.rel.nf, fun n o q => RO.up u (fun w e => ?_) (s.rel.ob n o q), fun b f => ?_⟩
    · rw [upd_ne (fun q2 => nl ⟨n, (by rw [q]; exact fun z => nomatch z), q2⟩)]; exact e
    · by_cases c : b = a
      · rw [c, upd_same]; intro z; cases z
      · rw [upd_ne c]; exact s.rel.fs b f
  have ex' : Ext K B.g B.hm B.H g hm (upd H a (.lst ws)) := by
    refine ⟨s.ex.n, s.ex.rho, s.ex.f1, s.ex.f2, fun b o e l => ?_, fun b e => ?_, s.ex.fresh, s.ex.live, rel'⟩
    · rw [upd_ne (fun q => by rw [q, h0] at e; cases e)]
      exact s.ex.keep b o e l
    · by_cases c : b = a
      · rw [c, upd_same]; intro z; cases z
      · rw [upd_ne c]; exact s.ex.stay b e
  have hi : i < σm.length := (List.getElem?_eq_some_iff.mp h).1
  refine ⟨s.gr, ex', ⟨by simp [s.en.len], fun j t hj => ?_, fun j k y1 y2 q1 q2 ne => ?_⟩, fun j y1 b q1 q2 => ?_, B.uc _ _ _ _ s.up u⟩
  · rcases get_set hj with ⟨rfl, rfl, hl⟩ | ⟨c, hj⟩
    · exact ⟨_, h1, z, a, ws, rfl, upd_same, r.up u, nf, nl⟩
    · obtain ⟨o, q1, q2⟩ := s.en.sl j t hj
      refine ⟨o, q1, ?_⟩
      cases t with
      | un => trivial
      | val m =>
        cases o with
        | none => exact q2
        | some v => exact RV.up u q2
      | own y1 =>
        cases o with
        | none => exact q2
        | some v =>
          obtain ⟨z2, b, w2, rfl, hb, rb, nf2, nl2⟩ := q2
          refine ⟨z2, b, w2, rfl, ?_, rb.up u, nf2, nl2⟩
          rw [upd_ne (fun e => s.en.ap j i y1 xs hj h c (by rw [q1, h1, e]))]
          exact hb
  · have old : ∀ {j : Nat} {y1 : List MV}, (σm.set i (.own ys))[j]? = some (.own y1) → ∃ y0, σm[j]? = some (.own y0) := fun {j y1} q => by
      rcases get_set q with ⟨rfl, _, _⟩ | ⟨_, q⟩
      · exact ⟨xs, h⟩
      · exact ⟨y1, q⟩
    obtain ⟨a1, e1⟩ := old q1
    obtain ⟨a2, e2⟩ := old q2
    exact s.en.ap j k a1 a2 e1 e2 ne
  · rcases get_set q1 with ⟨rfl, _, _⟩ | ⟨_, q1⟩
    · exact s.ow j xs b h q2
    · exact s.ow j y1 b q1 q2
/-- an expression's part of a statement -/
theorem Post.toE {α : Type} {r : Res α} {k : α → MH → Fl} {D : Ends} {P : α → Gh → MH → Hp → Prop} (s : StS K B g hm H σm σ) (fl : Fl) (hf : fl = (match r with
    | .ok m h => k m h
    | .ex c v h => .ex c v σm h
    | .no => .no)) (p : PostS K W B fl D) (hk : ∀ m g' hm' H', Ext K g hm H g' hm' H' → PostS K W B (k m hm') D → P m g' hm' H') : Post K W g hm σ H r P := by
  subst hf
  cases r with
  | ok m h => exact fun g' H' e => hk m g' h H' e p
  | ex c v h => exact fun g' H' cls d e x => p g' H' σ cls d (s.ext e) x
  | no => exact p
end
def bindS {α : Type} (f : Sl → MH → Res α) (k : α → Sl → MH → Fl) : SM := fun σ h => match f σ h with
  | .ok m h' => k m σ h'
  | .ex c v h' => .ex c v σ h'
  | .no => .no

/-! ### blocks -/
def nextS : SM := fun σ h => .nx σ h
def seqS (a b : SM) : SM := fun σ h => match a σ h with
  | .nx σ' h' => b σ' h'
  | r => r
section
variable {K : Kf} {W : WX} {X : Cx} {st : Stmt} {rest : List Stmt} {pos : Pos} {e : Expr}
theorem ss_nil : PSs X [] (rdS X.K W nextS) := imp_ss pss_nil fun D σ H h => by
  obtain ⟨B, g, hm, σm, s, p⟩ := h
  exact p g H σ s
theorem rd_seq {a b : SM} (D : Ends) (σ : L2.St) (H : Hp) (h : rdS K W (seqS a b) D σ H) : tSeq (rdS K W a) (rdS K W b) D σ H := by
  obtain ⟨B, g, hm, σm, s, p⟩ := h
  refine ⟨B, g, hm, σm, s, ?_⟩
  unfold seqS at p
  cases c : a σm hm with
  | nx σ1 h1 =>
    rw [c] at p
    exact fun g' H' σ' s' => ⟨B, g', h1, σ1, s', p⟩
  | rt m h1 => rw [c] at p; exact p
  | bk σ1 h1 => rw [c] at p; exact p
  | ct σ1 h1 => rw [c] at p; exact p
  | ex c1 m σ1 h1 => rw [c] at p; exact p
  | no => rw [c] at p; exact p
theorem ss_cons {a b : SM} (h1 : PS X st (rdS X.K W a)) (h2 : PSs X rest (rdS X.K W b)) : PSs X (st :: rest) (rdS X.K W (seqS a b)) := imp_ss (pss_cons h1 h2) rd_seq
theorem ss_one {a : SM} (h1 : PS X st (rdS X.K W a)) : PSs X [st] (rdS X.K W a) := pss_one h1
theorem ss_pass : PS X (.Pass pos) (rdS X.K W nextS) := imp_s ps_pass fun D σ H h => by
  obtain ⟨B, g, hm, σm, s, p⟩ := h
  exact p g H σ s
def breakS : SM := fun σ h => .bk σ h
def contS : SM := fun σ h => .ct σ h
theorem ss_break : PS X (.Break pos) (rdS X.K W breakS) := imp_s ps_break fun D σ H h => by
  obtain ⟨B, g, hm, σm, s, p⟩ := h
  exact p g H σ s
theorem ss_continue : PS X (.Continue pos) (rdS X.K W contS) := imp_s ps_continue fun D σ H h => by
  obtain ⟨B, g, hm, σm, s, p⟩ := h
  exact p g H σ s
/-- code that is not come to -/
def noS : SM := fun _ _ => .no
theorem ss_no : PS X st (rdS X.K W noS) := imp_s ps_never fun D σ H h => by
  obtain ⟨B, g, hm, σm, s, p⟩ := h
  exact p
/-- ahead of the block a slot's own list is frozen -/
def fzS (i : Nat) (b : SM) : SM := fun σ h => match σ[i]? with
  | some (.own xs) => b (σ.set i (.val (.lst xs))) h
  | _ => b σ h
theorem ss_fz {b : SM} (i : Nat) (h : PSs X rest (rdS X.K W b)) : PSs X rest (rdS X.K W (fzS i b)) := imp_ss h fun D σ H q => by
  obtain ⟨B, g, hm, σm, s, p⟩ := q
  unfold fzS at p
  split at p
  · rename_i xs c
    obtain ⟨g', s'⟩ := s.freeze c
    exact ⟨B, g', hm, _, s', p⟩
  · exact ⟨B, g, hm, σm, s, p⟩
/-! small statements -/
def exprS (f : EM) : SM := bindS f fun _ σ h => .nx σ h
def retS (f : EM) : SM := bindS f fun m _ h => .rt m h
theorem ss_expr {f : EM} (he : PE X e (rdE X.K W f)) (hs : swapsWith e none pos.line X.env = pure false := by rfl) : PS X (.Expr e pos) (rdS X.K W (exprS f)) := imp_s (ps_expr he hs) fun D σ H h => by
  obtain ⟨B, g, hm, σm, s, p⟩ := h
  exact ⟨g, σm, hm, s.rel, s.en, Post.toE s _ rfl p fun m g' hm' H' e k v rv => k g' H' σ (s.ext e)⟩
theorem ss_ret {f : EM} (he : PE X e (rdE X.K W f)) : PS X (.Return (some e) pos) (rdS X.K W (retS f)) := imp_s (ps_ret he) fun D σ H h => by
  obtain ⟨B, g, hm, σm, s, p⟩ := h
  exact ⟨g, σm, hm, s.rel, s.en, Post.toE s _ rfl p fun m g' hm' H' e k v rv => k g' H' v (s.ext e).ex rv⟩
def retN : SM := fun _ h => .rt .non h
theorem ss_retN : PS X (.Return none pos) (rdS X.K W retN) := imp_s ps_retN fun D σ H h => by
  obtain ⟨B, g, hm, σm, s, p⟩ := h
  exact p g H .non s.ex .non
def ifS (c : TM) (a b : SM) : SM := bindS c fun x => if x = true then a else b
theorem ss_if {c : Expr} {p q : List Stmt} {fc : TM} {a b : SM} (hc : PT X c (rdT X.K W fc)) (ha : PSs X p (rdS X.K W a)) (hb : PSs X q (rdS X.K W b)) : PS X (.If c p q pos) (rdS X.K W (ifS fc a b)) := imp_s (ps_if hc ha hb) fun D σ H h => by
  obtain ⟨B, g, hm, σm, s, p⟩ := h
  refine ⟨g, σm, hm, s.rel, s.en, Post.toE (k := fun x h => (if x = true then a else b) σm h) s _ rfl p fun x g' hm' H' e k => ?_⟩
  cases x with
  | true => exact ⟨B, g', hm', σm, s.ext e, k⟩
  | false => exact ⟨B, g', hm', σm, s.ext e, k⟩
def setS (i : Nat) (f : EM) : SM := bindS f fun m σ h => .nx (σ.set i (.val m)) h
theorem rd_set {i : Nat} {f : EM} (D : Ends) (σ : L2.St) (H : Hp) (h : rdS K W (setS i f) D σ H) : tAsg (rdE K W f) (gName i) D σ H := by
  obtain ⟨B, g, hm, σm, s, p⟩ := h
  exact ⟨g, σm, hm, s.rel, s.en, Post.toE (k := fun m h => .nx (σm.set i (.val m)) h) s _ rfl p fun m g' hm' H' e k v rv => k g' H' _ ((s.ext e).set_val i rv)⟩
theorem ss_set {i : Nat} {x : Str} {f : EM} {pos' : Pos} (hN : X.N.Nodup) (hi : X.N[i]? = some x) (hx : Loc X.env.scope x) (hf : X.fn x = true ∨ X.env.scope.names.lookup x = some .local) (he : PE X e (rdE X.K W f))
    (hs : swapsWith e (some (.Name x pos')) pos.line X.env = pure false := by rfl) : PS X (.Assign [.Name x pos'] e pos) (rdS X.K W (setS i f)) := imp_s (ps_set hN hi hx he hs hf) rd_set
/-- a new list becomes a slot's own -/
def ownS (i : Nat) (f : OM) : SM := bindS f fun xs σ h => .nx (σ.set i (.own xs)) h
theorem rd_own {i : Nat} {f : OM} (D : Ends) (σ : L2.St) (H : Hp) (h : rdS K W (ownS i f) D σ H) : tAsg (rdO K W f) (gName i) D σ H := by
  obtain ⟨B, g, hm, σm, s, p⟩ := h
  refine ⟨g, σm, hm, s.rel, s.en, Post.toE (k := fun m h => .nx (σm.set i (.own m)) h) s _ rfl p fun xs g' hm' H' e k a vs h0 h1 z rv nf nl => ?_⟩
  have hb : B.H a = none := by
    cases q : B.H a with
    | none => rfl
    | some o => exact absurd h0 (s.ex.stay a (by rw [q]; intro z; cases z))
  refine k g' H' _ ((s.ext e).set_own i hb z h1 rv nf nl fun j ys _ hj q => ?_)
  obtain ⟨b, ws, q1, _, q3, _⟩ := s.en.own hj
  rw [q1] at q
  have eb : b = a := by injection q with q; injection q with q; injection q
  rw [eb, h0] at q3
  cases q3
theorem ss_own {i : Nat} {x : Str} {f : OM} {pos' : Pos} (hN : X.N.Nodup) (hi : X.N[i]? = some x) (hx : Loc X.env.scope x) (hf : X.fn x = true ∨ X.env.scope.names.lookup x = some .local) (he : PE X e (rdO X.K W f))
    (hs : swapsWith e (some (.Name x pos')) pos.line X.env = pure false := by rfl) : PS X (.Assign [.Name x pos'] e pos) (rdS X.K W (ownS i f)) := imp_s (ps_set hN hi hx he hs hf) rd_own
end
end Mi
end P_M5
section P_M6
set_option Elab.async false
set_option linter.all false
set_option maxRecDepth 100000
set_option maxHeartbeats 4000000
/-! M6: targets, what is walked, for, while, comprehensions -/
namespace Mi
open PySem PySem.Spec PyProof.Rows L2

/-! ### targets -/
abbrev Tgt := MV → Sl → Option Sl
structure TgOk (is : List Nat) (σm : Sl) (σ : L2.St) (σm' : Sl) (σ' : L2.St) : Prop where
  len : σ'.length = σ.length
  out : ∀ j, j ∉ is → σ'[j]? = σ[j]? ∧ σm'[j]? = σm[j]?
  ins : ∀ j ∈ is, ∀ xs, σm'[j]? ≠ some (.own xs)
def rdG (K : Kf) (t : Tgt) (is : List Nat) : TG := fun v σ H Q => ∃ g hm σm m, Rel K g hm H ∧ REnv K g hm H σm σ ∧ RV K g H m v ∧ ∃ σm', t m σm = some σm' ∧ ∀ σ', REnv K g hm H σm' σ' → TgOk is σm σ σm' σ' → Q σ' H
def rdGs (K : Kf) (t : List MV → Sl → Option Sl) (is : List Nat) : TGs := fun vs σ H Q => ∃ g hm σm ms, Rel K g hm H ∧ REnv K g hm H σm σ ∧ RVs K g H ms vs ∧ ∃ σm', t ms σm = some σm' ∧ ∀ σ', REnv K g hm H σm' σ' → TgOk is σm σ σm' σ' → Q σ' H
def nameT (i : Nat) : Tgt := fun m σ => some (σ.set i (.val m))
def nilT : List MV → Sl → Option Sl := fun ms σ => match ms with
  | [] => some σ
  | _ => none
def consT (t : Tgt) (u : List MV → Sl → Option Sl) : List MV → Sl → Option Sl := fun ms σ => match ms with
  | m :: r => (t m σ).bind (u r)
  | [] => none
def tupT (n : Nat) (u : List MV → Sl → Option Sl) : Tgt := fun m σ => match m with
  | .tup ms => if ms.length = n then u ms σ else none
  | _ => none
theorem imp_gs {X : Cx} {tg : List Expr} {t t' : TGs} (h : PGs X tg t) (k : ∀ v σ H Q, t' v σ H Q → t v σ H Q) : PGs X tg t' := ⟨fun pins s σ H v u Q I r q => h.run pins s σ H v u Q I r (k v σ H Q q)⟩
section
variable {K : Kf} {X : Cx} {pos : Pos}
theorem sg_name {i : Nat} {x : Str} (hN : X.N.Nodup) (hi : X.N[i]? = some x) (hx : Loc X.env.scope x) (hf : X.fn x = true ∨ X.env.scope.names.lookup x = some .local) : PG X (.Name x pos) (rdG X.K (nameT i) [i]) :=
  imp_g (pg_name hN hi hx hf) fun v σ H Q h => by
    obtain ⟨g, hm, σm, m, rl, R, rv, σm', e, q⟩ := h
    cases e
    refine q _ (R.set_val i rv) ⟨by simp, fun j hj => ?_, fun j hj xs z => ?_⟩
    · have hj : i ≠ j := fun e => hj (by simp [e])
      exact ⟨List.getElem?_set_ne hj, List.getElem?_set_ne hj⟩
    · have hj : j = i := by simpa using hj
      subst hj
      rcases get_set z with ⟨_, z, _⟩ | ⟨c, _⟩
      · cases z
      · exact c rfl
theorem sgs_nil : PGs X [] (rdGs X.K nilT []) := imp_gs pgs_nil fun vs σ H Q h => by
  obtain ⟨g, hm, σm, ms, rl, R, rv, σm', e, q⟩ := h
  unfold nilT at e
  split at e
  · cases e
    cases rv
    exact ⟨rfl, q σ R ⟨rfl, fun _ _ => ⟨rfl, rfl⟩, fun j hj => absurd hj (by simp)⟩⟩
  · cases e
theorem sgs_cons {e : Expr} {es : List Expr} {t : Tgt} {u : List MV → Sl → Option Sl} {is js : List Nat} (h1 : PG X e (rdG X.K t is)) (h2 : PGs X es (rdGs X.K u js))
    (hs : (assignEach (e :: es) X.env).map (·.2) = assign e X.env :: (assignEach es X.env).map (·.2) := by rfl) : PGs X (e :: es) (rdGs X.K (consT t u) (is ++ js)) :=
  imp_gs (pgs_cons h1 h2 hs) fun vs σ H Q h => by
    obtain ⟨g, hm, σm, ms, rl, R, rv, σm', e, q⟩ := h
    unfold consT at e
    split at e
    · rename_i m r
      cases rv with
      | cons r1 rr =>
        rename_i v vs
        cases c : t m σm with
        | none => rw [c] at e; cases e
        | some σ1 =>
          rw [c] at e
          have e : u r σ1 = some σm' := e
          refine ⟨v, vs, rfl, g, hm, σm, m, rl, R, r1, σ1, c, fun σ' R' ok => ⟨g, hm, σ1, r, rl, R', rr, σm', e, fun σ2 R2 ok2 => q σ2 R2 ⟨ok2.len.trans ok.len, fun j hj => ?_, fun j hj xs z => ?_⟩⟩⟩
          · have hj1 : j ∉ is := fun z => hj (List.mem_append_left _ z)
            have hj2 : j ∉ js := fun z => hj (List.mem_append_right _ z)
            exact ⟨(ok2.out j hj2).1.trans (ok.out j hj1).1, (ok2.out j hj2).2.trans (ok.out j hj1).2⟩
          · by_cases hj2 : j ∈ js
            · exact ok2.ins j hj2 xs z
            · have hj1 : j ∈ is := (List.mem_append.mp hj).resolve_right hj2
              rw [(ok2.out j hj2).2] at z
              exact ok.ins j hj1 xs z
    · cases e
theorem sg_tup {es : List Expr} {k n : Nat} {u : List MV → Sl → Option Sl} {is : List Nat} (hc : X.calm = true) (h : PGs X es (rdGs X.K u is))
    (hn : (assignEach es X.env).length = n := by rfl) (hst : (assignEach es X.env).findIdx? (·.1) = none := by rfl) : PG X (.Tuple es k pos) (rdG X.K (tupT n u) is) :=
  imp_g (pg_tup hc h hn hst) fun v σ H Q h => by
    obtain ⟨g, hm, σm, m, rl, R, rv, σm', e, q⟩ := h
    unfold tupT at e
    split at e
    · rename_i ms
      split at e
      · rename_i c
        obtain ⟨a, vs, rfl, h1, rs⟩ := (RP.of (hm := hm) rv).tup_inv
        exact ⟨a, vs, rfl, h1, by rw [← rs.length]; exact c, g, hm, σm, ms, rl, R, rs, σm', e, q⟩
      · cases e
    · cases e
end
theorem StS.tgt {K : Kf} {B : Gd} {g : Gh} {hm : MH} {H : Hp} {σm σm' : Sl} {σ σ' : L2.St} {is : List Nat} (s : StS K B g hm H σm σ) (R : REnv K g hm H σm' σ') (ok : TgOk is σm σ σm' σ') : StS K B g hm H σm' σ' := by
  refine ⟨s.gr, s.ex, R, fun i xs a h1 h2 => ?_, s.up⟩
  by_cases c : i ∈ is
  · exact absurd h1 (ok.ins i c xs)
  · exact s.ow i xs a (by rw [← (ok.out i c).2]; exact h1) (by rw [← (ok.out i c).1]; exact h2)
def asgS (t : Tgt) (f : EM) : SM := bindS f fun m σ h => match t m σ with
  | some σ' => .nx σ' h
  | none => .no
section
variable {K : Kf} {W : WX} {X : Cx} {tg e : Expr} {pos : Pos}
theorem rd_asg {t : Tgt} {is : List Nat} {f : EM} (D : Ends) (σ : L2.St) (H : Hp) (h : rdS K W (asgS t f) D σ H) : tAsg (rdE K W f) (rdG K t is) D σ H := by
  obtain ⟨B, g, hm, σm, s, p⟩ := h
  refine ⟨g, σm, hm, s.rel, s.en, Post.toE (k := fun m h => match t m σm with
    | some σ' => .nx σ' h
    | none => .no) s _ rfl p fun m g' hm' H' e k v rv => ?_⟩
  cases c : t m σm with
  | none =>
    rw [c] at k
    exact k.elim
  | some σ1 =>
    rw [c] at k
    exact ⟨g', hm', σm, m, e.rel, (s.ext e).en, rv, σ1, c, fun σ' R ok => k g' H' σ' ((s.ext e).tgt R ok)⟩
theorem ss_asg {t : Tgt} {is : List Nat} {f : EM} (he : PE X e (rdE X.K W f)) (hg : PG X tg (rdG X.K t is)) (hs : swapsWithSole [tg] e pos.line X.env = pure false := by rfl) (hw : swappedStores [tg] e X.env = pure none := by rfl)
    (h1 : (assignEach [tg] X.env).map (·.2) = [assign tg X.env] := by rfl) : PS X (.Assign [tg] e pos) (rdS X.K W (asgS t f)) := imp_s (ps_asg he hg hs hw h1) rd_asg
end

/-! ### what is walked -/
def ItOk (K : Kf) (S : Gh → MH → Hp → Prop) (J : It) (ms : List MV) : Prop := ∀ g hm H, Rel K g hm H → S g hm H → ∀ i, (∀ m, ms[i]? = some m → J.go i H ∧ ∀ x H', J.yld i H x H' → ∃ g', Ext K g hm H g' hm H' ∧ RV K g' H' m x) ∧ (ms.length ≤ i → J.stop i H)
/-- it stands as long as what is frozen stands -/
def rdI (K : Kf) (W : WX) (f : OM) : TI := fun σ H R => Rdg K W σ H f fun ms g' _ H' => ∀ J, ItOk K (fun g _ H => Up g' H' g H) J ms → R J H'
/-- it stands as long as expressions alone run -/
def rdIP (K : Kf) (W : WX) (f : OM) : TI := fun σ H R => Rdg K W σ H f fun ms g' hm' H' => ∀ J, ItOk K (fun g hm H => Ext K g' hm' H' g hm H) J ms → R J H'
theorem imp_i {X : Cx} {tg it : Expr} {t t' : TI} (h : PI X tg it t) (k : ∀ σ H Q, t' σ H Q → t σ H Q) : PI X tg it t' := ⟨fun pins s σ H R I q => h.run pins s σ H R I (k σ H R q)⟩
theorem toIP {X : Cx} {W : WX} {tg it : Expr} {f : OM} (h : PI X tg it (rdI X.K W f)) : PI X tg it (rdIP X.K W f) := imp_i h fun σ H R q =>
  let ⟨g, σm, hm, rl, Rn, p⟩ := q
  ⟨g, σm, hm, rl, Rn, p.mono fun ms g' hm' H' e k J ok => k J fun g2 hm2 H2 rl2 x => ok g2 hm2 H2 rl2 (x.up e.rel)⟩
/-- the items of a list, a tuple that is a value -/
def itemsV : MV → MH → Res (List MV) := fun m h => match m with
  | .lst xs => .ok xs h
  | .scr xs => .ok xs h
  | _ => .no
def itemsT : MV → MH → Res (List MV) := fun m h => match m with
  | .tup xs => .ok xs h
  | _ => .no
def itE (f : EM) : OM := bindE f fun m _ h => itemsV m h
def itTE (f : EM) : OM := bindE f fun m _ h => itemsT m h
section
variable {K : Kf} {W : WX} {X : Cx} {tg e : Expr} {pos : Pos}
theorem sqL_inj {H : Hp} {a : Addr} {xs ys : List V} (h : H a = some (.lst xs)) (q : SqL K H a ys) (hk : K.lookup a = none) : ys = xs := by
  rcases q with (q | ⟨o, q⟩) | ⟨o, its, n, q, _⟩
  · rw [h] at q; cases q; rfl
  · rw [h] at q; cases q
  · rw [hk] at q; cases q
/-- a list that stays: every reading of it is the same by the state's own heap; here the reading that the rule hands on is asked of all readings -/
theorem it_list {S : Gh → MH → Hp → Prop} {a : Addr} {ms : List MV} (h : ∀ g hm H, Rel K g hm H → S g hm H → ∃ vs, SqL K H a vs ∧ RVs K g H ms vs) : ItOk K S (Itl K a) ms := fun g hm H rl s i => by
  obtain ⟨vs, q, rs⟩ := h g hm H rl s
  refine ⟨fun m hm' => ?_, fun hi => ⟨vs, q, by rw [← rs.length]; exact hi⟩⟩
  obtain ⟨v, h1, rv⟩ := rs.get hm'
  refine ⟨⟨vs, v, q, h1⟩, fun x H' y => ?_⟩
  obtain ⟨rfl, y⟩ := y
  have e := y vs q
  rw [h1] at e
  cases e
  exact ⟨g, .refl rl, rv⟩
theorem it_tup {S : Gh → MH → Hp → Prop} {a : Addr} {ms : List MV} (h : ∀ g hm H, Rel K g hm H → S g hm H → ∃ vs, SqT K H a vs ∧ RVs K g H ms vs) : ItOk K S (Itt K a) ms := fun g hm H rl s i => by
  obtain ⟨vs, q, rs⟩ := h g hm H rl s
  refine ⟨fun m hm' => ?_, fun hi => ⟨vs, q, by rw [← rs.length]; exact hi⟩⟩
  obtain ⟨v, h1, rv⟩ := rs.get hm'
  refine ⟨⟨vs, v, q, h1⟩, fun x H' y => ?_⟩
  obtain ⟨rfl, y⟩ := y
  have e := y vs q
  rw [h1] at e
  cases e
  exact ⟨g, .refl rl, rv⟩
theorem rv_seq {g : Gh} {H : Hp} {m : MV} {v : V} {ms : List MV} {h h' : MH} (r : RV K g H m v) (e : itemsV m h = .ok ms h') : h' = h ∧ ∃ a vs, v = .ref a ∧ SqL K H a vs ∧ RVs K g H ms vs ∧ (∀ g' H', Up g H g' H' → SqL K H' a vs) := by
  cases r <;> first | (exfalso; simp [itemsV] at e; done) | skip
  · rename_i a vs xs f hh z rs
    cases e
    exact ⟨rfl, a, vs, rfl, SqL.of hh, rs, fun g' H' u => SqL.of (u.hp _ _ f hh)⟩
  · rename_i a vs xs hh z rs
    cases e
    rcases hh with ⟨f, o, hh⟩ | hh
    · exact ⟨rfl, a, vs, rfl, .inl (.inr ⟨o, hh⟩), rs, fun g' H' u => .inl (.inr ⟨o, u.hp _ _ f hh⟩)⟩
    · exact ⟨rfl, a, vs, rfl, .inr hh, rs, fun g' H' u => .inr hh⟩
theorem rv_tup {g : Gh} {H : Hp} {m : MV} {v : V} {ms : List MV} {h h' : MH} (r : RV K g H m v) (e : itemsT m h = .ok ms h') : h' = h ∧ ∃ a vs, v = .ref a ∧ SqT K H a vs ∧ RVs K g H ms vs ∧ (∀ g' H', Up g H g' H' → SqT K H' a vs) := by
  cases r <;> first | (exfalso; simp [itemsT] at e; done) | skip
  · rename_i a vs xs f hh z rs
    cases e
    exact ⟨rfl, a, vs, rfl, SqT.of hh, rs, fun g' H' u => SqT.of (u.hp _ _ f hh)⟩
  · rename_i a vs xs w rs
    cases e
    exact ⟨rfl, a, vs, rfl, .inr w, rs, fun g' H' u => .inr w⟩
theorem si_list {f : EM} (he : PE X e (rdE X.K W f)) : PI X tg e (rdI X.K W (itE f)) := imp_i (pi_list he) fun σ H R h => by
  obtain ⟨g, σm, hm, rl, Rn, p⟩ := h
  refine ⟨g, σm, hm, rl, Rn, (Post.bind rl p).mono fun m g' hm' H' e q v rv => ?_⟩
  have q : Post X.K W g' hm' σ H' (itemsV m hm') fun ms g' _ H' => ∀ J, ItOk X.K (fun g _ H => Up g' H' g H) J ms → R J H' := q
  cases c : itemsV m hm' with
  | ok ms h2 =>
    rw [c] at q
    obtain ⟨rfl, a, vs, rfl, h1, rs, st⟩ := rv_seq rv c
    exact ⟨a, rfl, ⟨vs, h1⟩, q g' H' (.refl e.rel) _ (it_list fun g2 hm2 H2 rl2 u => ⟨vs, st _ _ u, rs.up u⟩)⟩
  | ex c1 v1 h1 => exfalso; unfold itemsV at c; split at c <;> cases c
  | no => rw [c] at q; exact q.elim
theorem si_tup {f : EM} (he : PE X e (rdE X.K W f)) : PI X tg e (rdI X.K W (itTE f)) := imp_i (pi_tup he) fun σ H R h => by
  obtain ⟨g, σm, hm, rl, Rn, p⟩ := h
  refine ⟨g, σm, hm, rl, Rn, (Post.bind rl p).mono fun m g' hm' H' e q v rv => ?_⟩
  have q : Post X.K W g' hm' σ H' (itemsT m hm') fun ms g' _ H' => ∀ J, ItOk X.K (fun g _ H => Up g' H' g H) J ms → R J H' := q
  cases c : itemsT m hm' with
  | ok ms h2 =>
    rw [c] at q
    obtain ⟨rfl, a, vs, rfl, h1, rs, st⟩ := rv_tup rv c
    exact ⟨a, rfl, ⟨vs, h1⟩, q g' H' (.refl e.rel) _ (it_tup fun g2 hm2 H2 rl2 u => ⟨vs, st _ _ u, rs.up u⟩)⟩
  | ex c1 v1 h1 => exfalso; unfold itemsT at c; split at c <;> cases c
  | no => rw [c] at q; exact q.elim
end
/-! a slot's own list, walked by a comprehension -/
def itOwn (i : Nat) : OM := fun σ h => match σ[i]? with
  | some (.own xs) => .ok xs h
  | some (.val m) => itemsV m h
  | _ => .no
theorem sip_own {W : WX} {X : Cx} {tg e : Expr} {i : Nat} (he : PE X e (tVar i)) : PI X tg e (rdIP X.K W (itOwn i)) := imp_i (pi_list he) fun σ H R h => by
  obtain ⟨g, σm, hm, rl, Rn, p⟩ := h
  unfold itOwn at p
  split at p
  · rename_i xs c
    obtain ⟨a, vs, h1, z, h2, h3, nf, nl⟩ := Rn.own c
    refine ⟨_, h1, a, rfl, ⟨vs, SqL.of h2⟩, p g H (.refl rl) _ (it_list fun g2 hm2 H2 rl2 x => ⟨vs, SqL.of (x.keep _ _ h2 nl), h3.up (x.up rl)⟩)⟩
  · rename_i m c
    obtain ⟨v, h1, rv⟩ := Rn.val c
    cases c2 : itemsV m hm with
    | ok ms h2 =>
      rw [c2] at p
      obtain ⟨rfl, a, vs, rfl, q1, rs, st⟩ := rv_seq rv c2
      exact ⟨_, h1, a, rfl, ⟨vs, q1⟩, p g H (.refl rl) _ (it_list fun g2 hm2 H2 rl2 u => ⟨vs, st _ _ (u.up rl), rs.up (u.up rl)⟩)⟩
    | ex c1 v1 h1 => exfalso; unfold itemsV at c2; split at c2 <;> cases c2
    | no => rw [c2] at p; exact p.elim
  · exact p.elim

/-! ### for -/
def forL (t : Tgt) (body : SM) : List MV → SM
  | [], σ, h => .nx σ h
  | m :: r, σ, h => match t m σ with
    | none => .no
    | some σ1 => match body σ1 h with
      | .nx σ2 h2 => forL t body r σ2 h2
      | .ct σ2 h2 => forL t body r σ2 h2
      | .bk σ2 h2 => .nx σ2 h2
      | r => r
def forS (t : Tgt) (f : OM) (body : SM) : SM := bindS f fun ms => forL t body ms
section
variable {K : Kf} {W : WX} {X : Cx} {tg e : Expr} {pos : Pos}
theorem rd_for {t : Tgt} {is : List Nat} {f : OM} {body : SM} (D : Ends) (σ : L2.St) (H : Hp) (h : rdS K W (forS t f body) D σ H) : tFor (rdI K W f) (rdG K t is) (rdS K W body) D σ H := by
  obtain ⟨B, g, hm, σm, s, p⟩ := h
  refine ⟨g, σm, hm, s.rel, s.en, Post.toE (k := fun ms h => forL t body ms σm h) s _ rfl p fun ms g1 hm1 H1 e k J ok => ?_⟩
  have s1 := s.ext e
  -- the ground, with this loop's start
  generalize hB : ({ B with u := fun g H => B.u g H ∧ Up g1 H1 g H, uc := fun a b c d x y => ⟨B.uc a b c d x.1 y, ⟨Nat.le_trans x.2.n y.n, fun n hn => (y.rho n (Nat.lt_of_lt_of_le hn x.2.n)).trans (x.2.rho n hn), fun b f => y.f1 b (x.2.f1 b f), fun b o f q => y.hp b o (x.2.f1 b f) (x.2.hp b o f q)⟩⟩ } : Gd) = B'
  have weak : ∀ {g hm H σm σ}, StS K B' g hm H σm σ → StS K B g hm H σm σ := fun {g hm H σm σ} x => by
    subst hB
    exact ⟨x.gr, x.ex, x.en, x.ow, x.up.1⟩
  have upB : ∀ {g hm H σm σ}, StS K B' g hm H σm σ → Up g1 H1 g H := fun {g hm H σm σ} x => by
    subst hB
    exact x.up.2
  have s1' : StS K B' g1 hm1 H1 σm σ := by
    subst hB
    exact ⟨s1.gr, s1.ex, s1.en, s1.ow, s1.up, .refl⟩
  refine ⟨fun i m σ H => ∃ g hm σm, StS K B' g hm H σm σ ∧ i ≤ ms.length ∧ m = ms.length - i ∧ PostS K W B (forL t body (ms.drop i) σm hm) D, ⟨ms.length, g1, hm1, σm, s1', Nat.zero_le _, rfl, by rw [List.drop_zero]; exact k⟩, ?_⟩
  rintro i m σ2 H2 ⟨g2, hm2, σm2, s2, hi, rfl, k2⟩
  obtain ⟨o1, o2⟩ := ok g2 hm2 H2 s2.rel (upB s2) i
  by_cases c : i < ms.length
  · have hx : ms[i]? = some ms[i] := List.getElem?_eq_getElem c
    have hd : ms.drop i = ms[i] :: ms.drop (i + 1) := List.drop_eq_getElem_cons c
    rw [hd] at k2
    unfold forL at k2
    obtain ⟨hgo, hy⟩ := o1 _ hx
    refine .inr ⟨hgo, fun σ' H' => ∃ g hm σm, StS K B' g hm H' σm σ' ∧ PostS K W B (forL t body (ms.drop (i + 1)) σm hm) D, fun σ' H' ⟨g3, hm3, σm3, s3, k3⟩ => ⟨ms.length - (i + 1), by omega, g3, hm3, σm3, s3, c, rfl, k3⟩, fun x H' y => ?_⟩
    obtain ⟨g3, e3, rv⟩ := hy x H' y
    cases ct : t ms[i] σm2 with
    | none =>
      simp only [ct] at k2
      exact k2.elim
    | some σm3 =>
      simp only [ct] at k2
      have s3 := s2.ext e3
      refine ⟨g3, hm2, σm2, ms[i], e3.rel, s3.en, rv, σm3, ct, fun σ' R okT => ?_⟩
      have s4 := s3.tgt R okT
      refine ⟨B', g3, hm2, σm3, s4, ?_⟩
      cases cb : body σm3 hm2 with
      | nx σ5 h5 =>
        simp only [cb] at k2
        exact fun g' H' σ' s' => ⟨g', h5, σ5, s', k2⟩
      | ct σ5 h5 =>
        simp only [cb] at k2
        exact fun g' H' σ' s' => ⟨g', h5, σ5, s', k2⟩
      | bk σ5 h5 =>
        simp only [cb] at k2
        exact fun g' H' σ' s' => k2 g' H' σ' (weak s')
      | rt m h5 =>
        simp only [cb] at k2
        exact fun g' H' v ex rv => k2 g' H' v (by subst hB; exact ex) rv
      | ex c1 m σ5 h5 =>
        simp only [cb] at k2
        exact fun g' H' σ' cls d s' x => k2 g' H' σ' cls d (weak s') x
      | no =>
        simp only [cb] at k2
        exact k2.elim
  · have ei : i = ms.length := by omega
    subst ei
    rw [List.drop_length] at k2
    exact .inl ⟨o2 (Nat.le_refl _), k2 g2 H2 σ2 (weak s2)⟩
theorem ss_for {t : Tgt} {is : List Nat} {f : OM} {body : List Stmt} {b : SM} (hp : PassesOwn (model X.prog X.w) X.A X.env X.xe) (hc : X.calm = true) (hi : PI X tg e (rdI X.K W f)) (hg : PG X tg (rdG X.K t is)) (hb : PSs X body (rdS X.K W b))
    (hs : ∀ x, foldedSetIterable e X.env x = pure x := by intro _; rfl) : PS X (.For tg e body [] pos) (rdS X.K W (forS t f b)) := imp_s (ps_for hp hc hi hg hb hs) rd_for

/-! ### while -/
def whileL (c : TM) (body : SM) : Nat → SM
  | 0, _, _ => .no
  | n + 1, σ, h => match c σ h with
    | .ok true h1 => (match body σ h1 with
      | .nx σ2 h2 => whileL c body n σ2 h2
      | .ct σ2 h2 => whileL c body n σ2 h2
      | .bk σ2 h2 => .nx σ2 h2
      | r => r)
    | .ok false h1 => .nx σ h1
    | .ex c v h => .ex c v σ h
    | .no => .no
theorem rd_while {fc : TM} {body : SM} (n : Nat) (D : Ends) (σ : L2.St) (H : Hp) (h : rdS K W (whileL fc body n) D σ H) : tWhile (rdT K W fc) (rdS K W body) D σ H := by
  obtain ⟨B, g, hm, σm, s, p⟩ := h
  refine ⟨fun m σ H => ∃ g hm σm, StS K B g hm H σm σ ∧ PostS K W B (whileL fc body m σm hm) D, ⟨n, g, hm, σm, s, p⟩, ?_⟩
  rintro m σ H ⟨g, hm, σm, s, p⟩
  cases m with
  | zero => exact p.elim
  | succ m =>
    unfold whileL at p
    refine ⟨g, σm, hm, s.rel, s.en, ?_⟩
    cases c : fc σm hm with
    | ok b h1 =>
      rw [c] at p
      intro g1 H1 e1
      cases b with
      | false => exact iteF (p g1 H1 σ (s.ext e1))
      | true =>
        refine iteT ⟨fun σ' H' => ∃ g hm σm, StS K B g hm H' σm σ' ∧ PostS K W B (whileL fc body m σm hm) D, fun σ' H' ⟨g3, hm3, σm3, s3, k3⟩ => ⟨m, Nat.lt_succ_self _, g3, hm3, σm3, s3, k3⟩, ?_⟩
        refine ⟨B, g1, h1, σm, s.ext e1, ?_⟩
        cases cb : body σm h1 with
        | nx σ5 h5 => simp only [cb] at p; exact fun g' H' σ' s' => ⟨g', h5, σ5, s', p⟩
        | ct σ5 h5 => simp only [cb] at p; exact fun g' H' σ' s' => ⟨g', h5, σ5, s', p⟩
        | bk σ5 h5 => simp only [cb] at p; exact p
        | rt m h5 => simp only [cb] at p; exact p
        | ex c1 m σ5 h5 => simp only [cb] at p; exact p
        | no => simp only [cb] at p; exact p
    | ex c1 v h1 =>
      rw [c] at p
      exact fun g' H' cls d e x => p g' H' σ cls d (s.ext e) x
    | no =>
      rw [c] at p
      exact p
theorem ss_while {c : Expr} {body : List Stmt} {fc : TM} {b : SM} (n : Nat) (hp : PassesOwn (model X.prog X.w) X.A X.env X.xe) (hc : PT X c (rdT X.K W fc)) (hb : PSs X body (rdS X.K W b)) : PS X (.While c body [] pos) (rdS X.K W (whileL fc b n)) :=
  imp_s (ps_while hp hc hb) (rd_while n)
end
end Mi
end P_M6
section P_M7
set_option Elab.async false
set_option linter.all false
set_option maxRecDepth 100000
set_option maxHeartbeats 4000000
/-! M7: comprehensions, defs and their calls -/
namespace Mi
open PySem PySem.Spec PyProof.Rows L2

/-! ### a new object is written -/
section
variable {K : Kf} {g g1 : Gh} {hm hm1 : MH} {H H1 : Hp} {a : Addr} {o : HO}
theorem Up.wr (nf : ¬ g.F a) : Up g H g (upd H a o) := ⟨Nat.le_refl _, fun _ _ => rfl, fun _ f => f, fun b w f e => by
  rw [upd_ne (fun q : b = a => nf (by rw [← q]; exact f))]; exact e⟩
theorem Rel.wr (r : Rel K g hm H) (nf : ¬ g.F a) (nl : ¬ Live g hm a) : Rel K g hm (upd H a o) := by
  refine ⟨r.nx, r.lt, r.inj, r.nf, fun n m q => RO.up (Up.wr nf) (fun w e => ?_) (r.ob n m q), fun b f => ?_⟩
  · rw [upd_ne (fun q2 => nl ⟨n, (by rw [q]; exact fun z => nomatch z), q2⟩)]; exact e
  · by_cases c : b = a
    · rw [c, upd_same]; intro z; cases z
    · rw [upd_ne c]; exact r.fs b f
theorem Ext.wr (e : Ext K g1 hm1 H1 g hm H) (h0 : H1 a = none) (nf : ¬ g.F a) (nl : ¬ Live g hm a) : Ext K g1 hm1 H1 g hm (upd H a o) := by
  refine ⟨e.n, e.rho, e.f1, e.f2, fun b w q l => ?_, fun b q => ?_, e.fresh, e.live, e.rel.wr nf nl⟩
  · rw [upd_ne (fun z => by rw [z, h0] at q; cases q)]
    exact e.keep b w q l
  · by_cases c : b = a
    · rw [c, upd_same]; intro z; cases z
    · rw [upd_ne c]; exact e.stay b q
theorem Ext.free (e : Ext K g1 hm1 H1 g hm H) (h : H a = none) : H1 a = none := by
  cases q : H1 a with
  | none => rfl
  | some o => exact absurd h (e.stay a (by rw [q]; intro z; cases z))
theorem Rel.new_nl (r : Rel K g hm H) (h : H a = none) : ¬ Live g hm a := fun ⟨n, l, e⟩ => by
  cases q : hm.get n with
  | none => exact l q
  | some o => exact (r.ob n o q).has (e ▸ h)
theorem Rel.new_nf (r : Rel K g hm H) (h : H a = none) : ¬ g.F a := fun f => r.fs a f h
end

/-! ### comprehensions -/
def wipeM (σ : Sl) : List Nat → Sl
  | [] => σ
  | v :: vs => (wipeM σ vs).set v .un
theorem REnv.wipe {K : Kf} {g : Gh} {hm : MH} {H : Hp} {σm : Sl} {σ : L2.St} (R : REnv K g hm H σm σ) : ∀ vs : List Nat, REnv K g hm H (wipeM σm vs) (L2.wipe σ vs)
  | [] => R
  | v :: vs => (REnv.wipe R vs).set_un v none
theorem wipe_get (σ : L2.St) : ∀ (vs : List Nat) (j : Nat), (L2.wipe σ vs)[j]? = if j ∈ vs then (if j < σ.length then some none else none) else σ[j]?
  | [], j => by simp [L2.wipe]
  | v :: vs, j => by
    unfold L2.wipe
    have ih := wipe_get σ vs j
    by_cases c : j = v
    · subst c
      by_cases l : j < σ.length
      · rw [List.getElem?_set_self (by rw [wipe_length]; exact l)]
        simp [l]
      · rw [List.getElem?_eq_none (by simp [wipe_length]; omega)]
        simp [l]
    · rw [List.getElem?_set_ne (Ne.symm c), ih]
      simp [c]
theorem wipe_eq {σ σ' : L2.St} {vs : List Nat} (hl : σ'.length = (L2.wipe σ vs).length) (h : ∀ j, j ∉ vs → σ'[j]? = (L2.wipe σ vs)[j]?) : L2.wipe σ' vs = L2.wipe σ vs := by
  have hl2 : σ'.length = σ.length := by rw [hl, wipe_length]
  apply List.ext_getElem?
  intro j
  rw [wipe_get σ' vs j, wipe_get σ vs j]
  by_cases c : j ∈ vs
  · simp only [c, if_true, hl2]
  · simp only [c, if_false]
    rw [h j c, wipe_get σ vs j]
    simp [c]
def yesT : TM := fun _ h => .ok true h
def compL (t : Tgt) (c : TM) (f : EM) (σ : Sl) : List MV → MH → Res (List MV)
  | [], h => .ok [] h
  | m :: r, h => match t m σ with
    | none => .no
    | some σ1 => match c σ1 h with
      | .ok true h1 => (match f σ1 h1 with
        | .ok y h2 => (match compL t c f σ r h2 with
          | .ok ys h3 => .ok (y :: ys) h3
          | _ => .no)
        | _ => .no)
      | .ok false h1 => compL t c f σ r h1
      | _ => .no
def compO (vs : List Nat) (fi : OM) (t : Tgt) (c : TM) (f : EM) : OM := fun σ h => bindR (fi σ h) fun ms h1 => if ms.length ≤ zl then compL t c f (wipeM σ vs) ms h1 else .no
theorem imp_ts {X : Cx} {ifs : List Expr} {t t' : TT} (h : PTs X ifs t) (k : ∀ σ H Q, t' σ H Q → t σ H Q) : PTs X ifs t' := ⟨fun pins s σ H Q I q => h.run pins s σ H Q I (k σ H Q q)⟩
section
variable {K : Kf} {W : WX} {X : Cx} {elt tg iter : Expr} {pos : Pos}
theorem sts_nil : PTs X [] (rdT X.K WNo yesT) := imp_ts pts_nil fun σ H Q h => by
  obtain ⟨g, σm, hm, rl, R, p⟩ := h
  exact p g H (.refl rl)
theorem sts_one {c : Expr} {f : TM} (h : PT X c (rdT X.K WNo f)) : PTs X [c] (rdT X.K WNo f) := pts_one h
theorem sts_two {c d : Expr} {f f2 : TM} (h : PT X c (rdT X.K WNo f)) (h2 : PT X d (rdT X.K WNo f2)) : True := trivial
theorem rd_comp {fi : OM} {t : Tgt} {is vs : List Nat} {c : TM} {f : EM} (hsub : ∀ j ∈ is, j ∈ vs) (σ : L2.St) (H : Hp) (Q : VK) (h : rdO K W (compO vs fi t c f) σ H Q) :
    tLc (rdIP K W fi) (rdG K t is) (rdT K WNo c) (rdE K WNo f) vs σ H Q := by
  obtain ⟨g, σm, hm, rl, R, p⟩ := h
  refine ⟨g, σm, hm, rl, R, ?_⟩
  unfold compO at p
  cases ci : fi σm hm with
  | ex c1 m h' => rw [ci] at p; exact p
  | no => rw [ci] at p; exact p
  | ok ms hm1 =>
    rw [ci] at p
    intro g1 H1 e1 J ok D hD
    have p : Post K W g hm σ H (if ms.length ≤ zl then compL t c f (wipeM σm vs) ms hm1 else .no) fun xs g' hm' H' => ∀ a vs, H a = none → H' a = some (.lst vs) → xs.length ≤ sizeLine → RVs K g' H' xs vs → ¬ g'.F a → ¬ Live g' hm' a → Q (.ref a) H' := p
    by_cases hz : ms.length ≤ zl
    case neg => rw [if_neg hz] at p; exact p.elim
    rw [if_pos hz] at p
    have R1 := (R.ext rl e1).wipe vs
    have D0 : H D = none := e1.free hD
    -- the rest that is to come, and what has come
    let fin : List MV → Res (List MV) → Prop := fun ys r => match r with
      | .ok zs hm' => ∀ g' H' vs, Ext K g1 hm1 H1 g' hm' H' → H' D = some (.lst vs) → (ys ++ zs).length ≤ zl → RVs K g' H' (ys ++ zs) vs → ¬ g'.F D → ¬ Live g' hm' D → Q (.ref D) H'
      | _ => False
    have start : fin [] (compL t c f (wipeM σm vs) ms hm1) := by
      show match compL t c f (wipeM σm vs) ms hm1 with
        | .ok zs hm' => _
        | _ => False
      cases cc : compL t c f (wipeM σm vs) ms hm1 with
      | ok zs hm' =>
        rw [cc] at p
        exact fun g' H' vs e2 hd hl rv nf nl => p g' H' (e1.trans rl e2) D vs D0 hd (by rw [zl_eq]; exact hl) rv nf nl
      | ex c1 m h' => exact (show False by
          have noex : ∀ (ms : List MV) (h : MH) c1 m h', compL t c f (wipeM σm vs) ms h ≠ .ex c1 m h' := by
            intro ms
            induction ms with
            | nil => intro h c1 m h' z; cases z
            | cons m0 r ih =>
              intro h c1 m h' z
              unfold compL at z
              split at z
              · cases z
              · split at z
                · split at z
                  · split at z <;> cases z
                  · cases z
                · exact ih _ _ _ _ z
                · cases z
          exact noex _ _ _ _ _ cc)
      | no => rw [cc] at p; exact p
    refine ⟨fun i m H => ∃ g2 hm2 ys ws, Ext K g1 hm1 H1 g2 hm2 H ∧ H D = some (.lst ws) ∧ RVs K g2 H ys ws ∧ ¬ g2.F D ∧ ¬ Live g2 hm2 D ∧ ys.length ≤ i ∧ i ≤ ms.length ∧ m = ms.length - i ∧ fin ys (compL t c f (wipeM σm vs) (ms.drop i) hm2),
      ⟨ms.length, g1, hm1, [], [], Ext.lay e1.rel hD, upd_same, .nil, e1.rel.new_nf hD, e1.rel.new_nl hD, Nat.le_refl _, Nat.zero_le _, rfl, start⟩, ?_⟩
    rintro i m H2 ⟨g2, hm2, ys, ws, e2, hd2, rv2, nf2, nl2, hy2, hi, rfl, k2⟩
    obtain ⟨o1, o2⟩ := ok g2 hm2 H2 e2.rel e2 i
    by_cases c0 : i < ms.length
    case neg =>
      have ei : i = ms.length := by omega
      subst ei
      rw [List.drop_length] at k2
      refine .inl ⟨o2 (Nat.le_refl _), ?_⟩
      have k2 : ∀ g' H' vs, Ext K g1 hm1 H1 g' hm2 H' → H' D = some (.lst vs) → (ys ++ []).length ≤ zl → RVs K g' H' (ys ++ []) vs → ¬ g'.F D → ¬ Live g' hm2 D → Q (.ref D) H' := k2
      rw [List.append_nil] at k2
      exact k2 g2 H2 ws e2 hd2 (by omega) rv2 nf2 nl2
    have hx : ms[i]? = some ms[i] := List.getElem?_eq_getElem c0
    have hdr : ms.drop i = ms[i] :: ms.drop (i + 1) := List.drop_eq_getElem_cons c0
    rw [hdr] at k2
    obtain ⟨hgo, hy⟩ := o1 _ hx
    refine .inr ⟨hgo, fun H' => ∃ g2 hm2 ys ws, Ext K g1 hm1 H1 g2 hm2 H' ∧ H' D = some (.lst ws) ∧ RVs K g2 H' ys ws ∧ ¬ g2.F D ∧ ¬ Live g2 hm2 D ∧ ys.length ≤ i + 1 ∧ fin ys (compL t c f (wipeM σm vs) (ms.drop (i + 1)) hm2),
      fun H' ⟨g3, hm3, y3, w3, a1, a2, a3, a4, a5, a6, a7⟩ => ⟨ms.length - (i + 1), by omega, g3, hm3, y3, w3, a1, a2, a3, a4, a5, a6, c0, rfl, a7⟩, fun x H3 y => ?_⟩
    obtain ⟨g3, e3, rv⟩ := hy x H3 y
    have e13 := e2.trans e1.rel e3
    unfold compL at k2
    cases ct : t ms[i] (wipeM σm vs) with
    | none => simp only [ct] at k2; exact k2.elim
    | some σ1 =>
      simp only [ct] at k2
      refine ⟨g3, hm2, wipeM σm vs, ms[i], e3.rel, R1.ext e1.rel e13, rv, σ1, ct, fun σ' R' okT => ⟨wipe_eq okT.len fun j hj => (okT.out j fun z => hj (hsub j z)).1, ?_⟩⟩
      have D3 : H3 D = some (.lst ws) := e3.keep _ _ hd2 nl2
      have D2n : H2 D ≠ none := by rw [hd2]; intro z; cases z
      have nf3 : ¬ g3.F D := fun z => (e3.f2 D z).elim nf2 fun z => D2n z
      have nl3 : ¬ Live g3 hm2 D := fun z => nl2 (e3.live' e2.rel D2n z)
      refine ⟨g3, σ1, hm2, e3.rel, R', ?_⟩
      cases cc : c σ1 hm2 with
      | ex c1 m h' => simp only [cc] at k2; exact k2.elim
      | no => simp only [cc] at k2; exact k2.elim
      | ok b hm4 =>
        intro g4 H4 e4
        have D3n : H3 D ≠ none := by rw [D3]; intro z; cases z
        have D4 : H4 D = some (.lst ws) := e4.keep _ _ D3 nl3
        have nf4 : ¬ g4.F D := fun z => (e4.f2 D z).elim nf3 fun z => D3n z
        have nl4 : ¬ Live g4 hm4 D := fun z => nl3 (e4.live' e3.rel D3n z)
        have e14 := e13.trans e1.rel e4
        have rv4 : RVs K g4 H4 ys ws := (rv2.up (e3.up e2.rel)).up (e4.up e3.rel)
        cases b with
        | false =>
          simp only [cc] at k2
          exact iteF ⟨g4, hm4, ys, ws, e14, D4, rv4, nf4, nl4, by omega, k2⟩
        | true =>
          simp only [cc] at k2
          refine iteT ⟨g4, σ1, hm4, e4.rel, R'.ext e3.rel e4, ?_⟩
          cases cf : f σ1 hm4 with
          | ex c1 m h' => simp only [cf] at k2; exact k2.elim
          | no => simp only [cf] at k2; exact k2.elim
          | ok yv hm5 =>
            simp only [cf] at k2
            intro g5 H5 e5 v rvy
            have D4n : H4 D ≠ none := by rw [D4]; intro z; cases z
            have D5 : H5 D = some (.lst ws) := e5.keep _ _ D4 nl4
            have nf5 : ¬ g5.F D := fun z => (e5.f2 D z).elim nf4 fun z => D4n z
            have nl5 : ¬ Live g5 hm5 D := fun z => nl4 (e5.live' e4.rel D4n z)
            have rv5 : RVs K g5 H5 ys ws := rv4.up (e5.up e4.rel)
            have e15 := e14.trans e1.rel e5
            have lw : ws.length = ys.length := rv5.length.symm
            refine ⟨ws, D5, by rw [zl_eq]; omega, g5, hm5, ys ++ [yv], ws ++ [v], e15.wr hD nf5 nl5, upd_same, (rv5.append (.cons rvy .nil)).up (Up.wr nf5), nf5, nl5, by simp; omega, ?_⟩
            show match compL t c f (wipeM σm vs) (ms.drop (i + 1)) hm5 with
              | .ok zs hm' => _
              | _ => False
            cases cr : compL t c f (wipeM σm vs) (ms.drop (i + 1)) hm5 with
            | ok zs hm' =>
              simp only [cr] at k2
              have k2 : ∀ g' H' vs, Ext K g1 hm1 H1 g' hm' H' → H' D = some (.lst vs) → (ys ++ (yv :: zs)).length ≤ zl → RVs K g' H' (ys ++ (yv :: zs)) vs → ¬ g'.F D → ¬ Live g' hm' D → Q (.ref D) H' := k2
              have es : ys ++ (yv :: zs) = (ys ++ [yv]) ++ zs := by simp
              rw [es] at k2
              exact k2
            | ex c1 m h' => simp only [cr] at k2; exact k2.elim
            | no => simp only [cr] at k2; exact k2.elim
theorem so_comp {fi : OM} {t : Tgt} {is : List Nat} {c : TM} {f : EM} {ifs : List Expr} {scope : Scope} {own : List (Str × Nat)} (hc : X.calm = true) (hN : X.N.Nodup) (hi : PI X tg iter (rdIP X.K W fi)) (ok : BlkOk X.N X.env.scope scope own)
    (hg : ∀ (s : Shared) (H : Hp) (C : Addr) (cl : List (Str × Addr)) (fp : List Addr), PG (X.blk s H scope (compEnvC scope cl C X.env) fp) tg (rdG X.K t is))
    (ht : ∀ (s : Shared) (H : Hp) (C : Addr) (cl : List (Str × Addr)) (fp : List Addr), PTs (X.blk s H scope (compEnvC scope cl C X.env) fp) ifs (rdT X.K WNo c))
    (he : ∀ (s : Shared) (H : Hp) (C : Addr) (cl : List (Str × Addr)) (fp : List Addr), PE (X.blk s H scope (compEnvC scope cl C X.env) fp) elt (rdE X.K WNo f)) (hsub : ∀ j ∈ is, j ∈ own.map (·.2))
    (hs : ∀ x, foldedSetIterable iter X.env x = pure x := by intro _; rfl) :
    PE X (.ListComp elt [⟨tg, iter, ifs, 0⟩] scope pos) (rdO X.K W (compO (own.map (·.2)) fi t c f)) := imp_e (pe_lc hc hN hi ok hg ht he hs) (rd_comp hsub)
end

/-! ### defs -/
def PostF (K : Kf) (g : Gh) (hm : MH) (H : Hp) (r : Res MV) (Q : VK) (E : XK) : Prop := Post K (fun cls d _ H => E cls d H) g hm [] H r fun m g' _ H' => ∀ v, RV K g' H' m v → Q v H'
/-- what a def promises: F tells it -/
def spM (K : Kf) (n : Nat) (F : List MV → MH → Res MV) : Sp := fun vs H Q E => vs.length = n ∧ ∃ g hm ms, Rel K g hm H ∧ RVs K g H ms vs ∧ PostF K g hm H (F ms hm) Q E
def BindD (K : Kf) (fd : FuncData) (ps : List Str) (dms : List MV) : Prop := ∃ ds dvs, Binds K fd ps ds ∧ Vals dvs ds ∧ ∀ g H, RVs K g H dms dvs
/-- the def that the module's name x stands for is F; the values dms fill up what a call leaves out -/
structure FnS (P : Program) (w : World) (K : Kf) (mg : Str → Option Value) (base : Heap) (k : Nat) (x : Str) (n : Nat) (dms : List MV) (F : List MV → MH → Res MV) : Prop where
  ex : ∃ f fd ps, mg x = some (.ref f) ∧ PySem.W.keepIn K (.ref f) = true ∧ FnOk P w K mg base (L2.CX P w) k f fd ps (spM K n F) ∧ BindD K fd ps dms
theorem FnS.mono {P : Program} {w : World} {K : Kf} {mg : Str → Option Value} {base : Heap} {j k : Nat} {x : Str} {n : Nat} {dms : List MV} {F : List MV → MH → Res MV} (h : FnS P w K mg base j x n dms F) (l : j ≤ k) : FnS P w K mg base k x n dms F := by
  obtain ⟨f, fd, ps, a, b, c, d⟩ := h.ex
  exact ⟨f, fd, ps, a, b, c.mono l, d⟩
/-- where F is told by F' -/
theorem FnS.as {P : Program} {w : World} {K : Kf} {mg : Str → Option Value} {base : Heap} {k : Nat} {x : Str} {n : Nat} {dms : List MV} {F F' : List MV → MH → Res MV} (h : FnS P w K mg base k x n dms F)
    (e : ∀ ms h, ms.length = n → (F' ms h = F ms h ∨ F' ms h = .no)) : FnS P w K mg base k x n dms F' := by
  obtain ⟨f, fd, ps, a, b, c, d⟩ := h.ex
  refine ⟨f, fd, ps, a, b, c.imp fun vs H Q E q => ?_, d⟩
  obtain ⟨hl, g, hm, ms, rl, rv, p⟩ := q
  rcases e ms hm (by rw [rv.length]; exact hl) with z | z
  · exact ⟨hl, g, hm, ms, rl, rv, by rw [← z]; exact p⟩
  · rw [z] at p
    exact p.elim
def callE (F : List MV → MH → Res MV) (dms : List MV) (fs : OM) : EM := bindE fs fun ms _ h => F (ms ++ dms) h
section
variable {X : Cx} {W : WX} {x : Str} {p pos : Pos} {e : Expr} {es : List Expr} {k n : Nat} {dms : List MV} {F : List MV → MH → Res MV}
theorem rd_call {K : Kf} {fs : OM} {dvs : List V} (hd : ∀ g H, RVs K g H dms dvs) (hn : ∀ ms vs g H, RVs K g H ms vs → (ms.length = n ↔ vs.length = n)) (σ : L2.St) (H : Hp) (Q : VK) (h : rdE K W (callE (fun ms h => if ms.length = n then F ms h else .no) dms fs) σ H Q) :
    tCallSD (spM K n F) dvs (WE W) (rdA K W fs) σ H Q := by
  obtain ⟨g, σm, hm, rl, R, p⟩ := h
  refine ⟨g, σm, hm, rl, R, (Post.bind rl p).mono fun ms g' hm' H' e q vs rv => ?_⟩
  have q : Post K W g' hm' σ H' (if (ms ++ dms).length = n then F (ms ++ dms) hm' else .no) fun m g' _ H' => ∀ v, RV K g' H' m v → Q v H' := q
  by_cases c : (ms ++ dms).length = n
  · rw [if_pos c] at q
    have rv2 := rv.append (hd g' H')
    refine ⟨by rw [← rv2.length]; exact c, g', hm', ms ++ dms, e.rel, rv2, ?_⟩
    show Post K _ _ _ [] _ _ _
    cases r : F (ms ++ dms) hm' with
    | ok m h2 => rw [r] at q; exact q
    | ex c1 m h2 => rw [r] at q; exact q
    | no => rw [r] at q; exact q
  · rw [if_neg c] at q
    exact q.elim
def callN (n : Nat) (F : List MV → MH → Res MV) : List MV → MH → Res MV := fun ms h => if ms.length = n then F ms h else .no
theorem se_call {fs : OM} (G : FnS X.prog X.w X.K X.mg X.base k x n dms F) (hr : Room k X.A) (tk : Takes X W) (hg : Gl X x) (hdb : (x == ("__debug__" : Str)) = false) (ha : PA X (e :: es) (rdA X.K W fs))
    (he : starEach (e :: es) X.env = (false, eval e X.env) :: starEach es X.env := by rfl) (hpl : (backTo pos (starEach es X.env)).any (·.1) = false := by rfl) :
    PE X (.Call (.Name x p) (e :: es) [] pos) (rdE X.K W (callE (callN n F) dms fs)) := by
  obtain ⟨f, fd, ps, a, b, c, ds, dvs, hb, hd, hdm⟩ := G.ex
  exact imp_e (pe_callSD c hr hg a b hb hd (fun σ => passAt tk σ) ha hdb he hpl) (rd_call hdm fun ms vs g H r => by rw [r.length])
theorem pe_call0SD {CX : CXT} {f : Addr} {fd : FuncData} {ps : List Str} {sp : Sp} {dvs : List V} {ds : List Value} {E : L2.St → XK} (F : FnOk X.prog X.w X.K X.mg X.base CX k f fd ps sp) (hr : Room k X.A) (hg : Gl X x) (hm : X.mg x = some (.ref f)) (hk : PySem.W.keepIn X.K (.ref f) = true)
    (hb : Binds X.K fd ps ds) (hd : Vals dvs ds) (hx : ∀ σ, PassesAt CX X σ (E σ)) (hdb : (x == ("__debug__" : Str)) = false := by decide) : PE X (.Call (.Name x p) [] [] pos) (tCallSD sp dvs E tNil) :=
  ⟨fun pins s σ H Q I h => wpAny_Call_Name_kw (ld_glob I hg hm (PySem.W.callWith_K0 I.kIn hk (run_fnSD (us := []) F hr hb hd (hx σ) I .nil h)) hdb)⟩
theorem se_call0 (G : FnS X.prog X.w X.K X.mg X.base k x n dms F) (hr : Room k X.A) (tk : Takes X W) (hg : Gl X x) (hdb : (x == ("__debug__" : Str)) = false) :
    PE X (.Call (.Name x p) [] [] pos) (rdE X.K W (callE (callN n F) dms nilA)) := by
  obtain ⟨f, fd, ps, a, b, c, ds, dvs, hb, hd, hdm⟩ := G.ex
  refine imp_e (pe_call0SD c hr hg a b hb hd (fun σ => passAt tk σ) hdb) fun σ H Q h => ?_
  have z := rd_call hdm (fun ms vs g H r => by rw [r.length]) σ H Q h
  obtain ⟨g, σm, hm, rl, R, p⟩ := z
  exact p g H (.refl rl) [] .nil
end
/-- a def, by its body -/
def bodyF (N n : Nat) (b : SM) : List MV → MH → Res MV := fun ms h => match b (ms.map .val ++ List.replicate (N - n) .un) h with
  | .rt m h' => .ok m h'
  | .nx _ h' => .ok .non h'
  | .ex c m _ h' => .ex c m h'
  | _ => .no
theorem start_env {K : Kf} {g : Gh} {hm : MH} {H : Hp} {ms : List MV} {vs : List V} {N : List Str} (rv : RVs K g H ms vs) (k : Nat) (hk : N.length - vs.length = k) : REnv K g hm H (ms.map .val ++ List.replicate k .un) (L2.start N vs) := by
  have hl := rv.length
  have st : ∀ (i : Nat) (s : SV), (ms.map SV.val ++ List.replicate k SV.un)[i]? = some s → (∃ m, ms[i]? = some m ∧ s = .val m) ∨ (ms.length ≤ i ∧ i < ms.length + k ∧ s = .un) := fun i s h => by
    by_cases c : i < ms.length
    · rw [List.getElem?_append_left (by simpa using c), List.getElem?_map, List.getElem?_eq_getElem c] at h
      cases h
      exact .inl ⟨_, List.getElem?_eq_getElem c, rfl⟩
    · have c' : ms.length ≤ i := by omega
      rw [List.getElem?_append_right (by simpa using c'), List.getElem?_replicate] at h
      split at h
      · cases h
        rename_i q
        simp at q
        exact .inr ⟨c', by omega, rfl⟩
      · cases h
  refine ⟨?_, fun i s h => ?_, fun i j xs ys h1 h2 ne => ?_⟩
  · unfold L2.start
    simp only [List.length_append, List.length_map, List.length_replicate]
    omega
  · rcases st i s h with ⟨m, hm', rfl⟩ | ⟨h1, h2, rfl⟩
    · obtain ⟨v, hv, r⟩ := rv.get hm'
      refine ⟨some v, ?_, r⟩
      unfold L2.start
      have hi : i < vs.length := (List.getElem?_eq_some_iff.mp hv).1
      rw [List.getElem?_append_left (by simpa using hi), List.getElem?_map, hv]
      rfl
    · refine ⟨none, ?_, trivial⟩
      unfold L2.start
      rw [List.getElem?_append_right (by simp; omega), List.getElem?_replicate, if_pos (by simp; omega)]
  · rcases st i _ h1 with ⟨m, _, z⟩ | ⟨_, _, z⟩ <;> cases z
theorem fn_ok {P : Program} {w : World} {K : Kf} {mg : Str → Option Value} {base : Heap} {x qual : Str} {params : Arguments} {body : List Stmt} {scope : Scope} {dvs : List V} {kws : List (Str × V)} {f : Addr} {fd : FuncData} {N ps : List Str} {k n : Nat} {b : SM}
    (Fd : FunD K x qual params body scope dvs kws f fd) (S : FnScope N ps scope) (hn : ps.length = n) (NN : Nat) (hN : N.length = NN)
    (hbody : ∀ (X : Cx), X.prog = P → X.w = w → X.K = K → X.mg = mg → X.base = base → X.N = N → X.env.scope = scope → X.calm = true → (∀ x, X.fn x = true) → Room k X.A → (∃ W, Takes X W) → PassesOwn (model X.prog X.w) X.A X.env X.xe → ∀ W, Takes X W → PSs X body (rdS X.K W b)) :
    FnOk P w K mg base (L2.CX P w) (k + 1) f fd ps (spM K n (bodyF NN n b)) := by
  refine FunD.ok Fd S (fun vs H Q E h => by rw [hn]; exact h.1) fun cdv A outer s H vs Q E hr h => ?_
  have tk : Takes (cxOf (L2.CX P w) P w K mg base N qual scope f cdv A outer s H E) (fun cls d _ H => E cls d H) := takes_of rfl rfl rfl rfl
  refine ⟨_, hbody (cxOf (L2.CX P w) P w K mg base N qual scope f cdv A outer s H E) rfl rfl rfl rfl rfl rfl rfl rfl (fun _ => rfl) hr ⟨_, tk⟩ (passes_of rfl) _ tk, ?_⟩
  obtain ⟨hl, g, hm, ms, rl, rv, p⟩ := h
  have hN2 : NN - n = N.length - vs.length := by rw [hN, hl]
  have R : REnv K g hm H (ms.map .val ++ List.replicate (NN - n) .un) (L2.start N vs) := start_env rv _ (by omega)
  refine ⟨⟨g, hm, H, fun _ _ => True, fun _ _ _ _ _ _ => trivial⟩, g, hm, _, ⟨rl, .refl rl, R, fun i xs a h1 h2 => ?_, trivial⟩, ?_⟩
  · exfalso
    by_cases c : i < ms.length
    · rw [List.getElem?_append_left (by simpa using c), List.getElem?_map] at h1
      cases q : ms[i]? with
      | none => rw [q] at h1; cases h1
      | some m => rw [q] at h1; cases h1
    · rw [List.getElem?_append_right (by simp; omega), List.getElem?_replicate] at h1
      split at h1 <;> cases h1
  · have p : Post K _ g hm [] H (match b (ms.map .val ++ List.replicate (NN - n) .un) hm with
      | .rt m h' => .ok m h'
      | .nx _ h' => .ok .non h'
      | .ex c m _ h' => .ex c m h'
      | _ => .no) fun m g' _ H' => ∀ v, RV K g' H' m v → Q v H' := p
    cases c : b (ms.map .val ++ List.replicate (NN - n) .un) hm with
    | rt m h' => rw [c] at p; exact fun g' H' v e r => p g' H' e v r
    | nx σ' h' => rw [c] at p; exact fun g' H' σ'' s => p g' H' s.ex .non .non
    | ex c1 m σ' h' => rw [c] at p; exact fun g' H' σ'' cls d s x => p g' H' cls d s.ex x
    | bk σ' h' => rw [c] at p; exact p.elim
    | ct σ' h' => rw [c] at p; exact p.elim
    | no => rw [c] at p; exact p
theorem fn_def {P : Program} {w : World} {K : Kf} {mg : Str → Option Value} {base : Heap} {x y qual : Str} {params : Arguments} {body : List Stmt} {scope : Scope} {dvs : List V} {kws : List (Str × V)} {f : Addr} {fd : FuncData} {N ps : List Str} {k n : Nat} {dms : List MV} {b : SM}
    (Fd : FunD K x qual params body scope dvs kws f fd) (S : FnScope N ps scope) (hn : ps.length = n) (hm : mg y = some (.ref f)) (hb : BindD K fd ps dms) (NN : Nat) (hN : N.length = NN)
    (hbody : ∀ (X : Cx), X.prog = P → X.w = w → X.K = K → X.mg = mg → X.base = base → X.N = N → X.env.scope = scope → X.calm = true → (∀ x, X.fn x = true) → Room k X.A → (∃ W, Takes X W) → PassesOwn (model X.prog X.w) X.A X.env X.xe → ∀ W, Takes X W → PSs X body (rdS X.K W b)) :
    FnS P w K mg base (k + 1) y n dms (bodyF NN n b) :=
  ⟨f, fd, ps, hm, Fd.kp, fn_ok Fd S hn NN hN hbody, hb⟩
end Mi
end P_M7
section P_M8
set_option Elab.async false
set_option linter.all false
set_option maxRecDepth 100000
set_option maxHeartbeats 4000000
set_option exponentiation.threshold 10000
/-! M8: built-ins on plain values -/
namespace Mi
open PySem PySem.Spec PyProof.Rows L2

/-! ### arguments that are looked at -/
def rdPA (K : Kf) (W : WX) (f : OM) : TA := fun σ H Q => Rdg K W σ H f fun ms g' hm' H' => ∀ vs, RPs K g' hm' H' ms vs → Q vs H'
section
variable {K : Kf} {W : WX} {X : Cx} {e : Expr} {es : List Expr} {pos : Pos}
theorem spa_nil : PA X [] (rdPA X.K W nilA) := imp_a pa_nil fun σ H Q h => by
  obtain ⟨g, σm, hm, rl, R, p⟩ := h
  exact p g H (.refl rl) [] .nil
theorem spa_cons {f : EM} {fs : OM} (ha : PE X e (rdP X.K W f)) (hr : PA X es (rdPA X.K W fs)) (hs : starEach (e :: es) X.env = (false, eval e X.env) :: starEach es X.env := by rfl) : PA X (e :: es) (rdPA X.K W (consA f fs)) :=
  imp_a (pa_cons ha hr hs) fun σ H Q h => by
    obtain ⟨g, σm, hm, rl, R, p⟩ := h
    refine ⟨g, σm, hm, rl, R, (Post.bind rl p).mono fun x g1 hm1 H1 e1 q v rv => ?_⟩
    refine ⟨g1, σm, hm1, e1.rel, R.ext rl e1, (Post.bind e1.rel q).mono fun xs g2 hm2 H2 e2 q2 vs rvs => ?_⟩
    exact q2 g2 H2 (.refl e2.rel) _ (.cons (rv.ext e1.rel e2) rvs)
end
abbrev RN := List V → Hp → VK → Prop
def VPn (K : Kf) (r : RN) (op : MH → List MV → Option MV) : Prop := ∀ (g : Gh) (hm : MH) (H : Hp) (xs : List MV) (vs : List V) (m : MV) (Q : VK), Rel K g hm H → RPs K g hm H xs vs → op hm xs = some m →
  (∀ g' H' v, Ext K g hm H g' hm H' → RV K g' H' m v → Q v H') → r vs H Q
def VOn (K : Kf) (r : RN) (op : MH → List MV → Option (List MV)) : Prop := ∀ (g : Gh) (hm : MH) (H : Hp) (xs : List MV) (vs : List V) (ms : List MV) (Q : VK), Rel K g hm H → RPs K g hm H xs vs → op hm xs = some ms →
  (∀ g' H' a ws, Ext K g hm H g' hm H' → H a = none → H' a = some (.lst ws) → ms.length ≤ sizeLine → RVs K g' H' ms ws → ¬ g'.F a → ¬ Live g' hm a → Q (.ref a) H') → r vs H Q
def callB (op : MH → List MV → Option MV) (fs : OM) : EM := bindE fs fun xs => fun _ h => optR (op h xs) h
def callBO (op : MH → List MV → Option (List MV)) (fs : OM) : OM := bindE fs fun xs => fun _ h => optR (op h xs) h
section
variable {K : Kf} {W : WX} {X : Cx} {e : Expr} {es : List Expr} {pos p : Pos} {r : RN} {x : Str}
theorem rd_callB {op : MH → List MV → Option MV} {fs : OM} (hv : VPn K r op) (σ : L2.St) (H : Hp) (Q : VK) (h : rdE K W (callB op fs) σ H Q) : tCB r (rdPA K W fs) σ H Q := by
  obtain ⟨g, σm, hm, rl, R, p⟩ := h
  refine ⟨g, σm, hm, rl, R, (Post.bind rl p).mono fun xs g1 hm1 H1 e1 q vs rvs => ?_⟩
  have q : Post K W g1 hm1 σ H1 (optR (op hm1 xs) hm1) fun m g' _ H' => ∀ v, RV K g' H' m v → Q v H' := q
  cases c : op hm1 xs with
  | none => rw [c] at q; exact q.elim
  | some m =>
    rw [c] at q
    exact hv g1 hm1 H1 xs vs m Q e1.rel rvs c fun g' H' v ex rv => q g' H' ex v rv
theorem rd_callBO {op : MH → List MV → Option (List MV)} {fs : OM} (hv : VOn K r op) (σ : L2.St) (H : Hp) (Q : VK) (h : rdO K W (callBO op fs) σ H Q) : tCB r (rdPA K W fs) σ H Q := by
  obtain ⟨g, σm, hm, rl, R, p⟩ := h
  refine ⟨g, σm, hm, rl, R, ?_⟩
  unfold callBO bindE at p
  cases c0 : fs σm hm with
  | ok xs hm1 =>
    rw [c0] at p
    intro g1 H1 e1 vs rvs
    have p : Post K W g hm σ H (optR (op hm1 xs) hm1) _ := p
    cases c : op hm1 xs with
    | none => rw [c] at p; exact p.elim
    | some ms =>
      rw [c] at p
      exact hv g1 hm1 H1 xs vs ms Q e1.rel rvs c fun g' H' a ws ex h0 h1 z rv nf nl => p g' H' (e1.trans rl ex) a ws (e1.free h0) h1 z rv nf nl
  | ex c m h' => rw [c0] at p; exact p
  | no => rw [c0] at p; exact p
structure NmB (X : Cx) (x : Str) (u : Value) : Prop where
  gl : Gl X x
  mg : X.mg x = none
  bt : bootBuiltins x = some u
  nn : x ≠ "__name__"
  db : (x == ("__debug__" : Str)) = false
theorem se_callB {id : String} {op : MH → List MV → Option MV} {fs : OM} (hc : CallR X (.builtin id) r) (hv : VPn X.K r op) (n : NmB X x (.builtin id)) (ha : PA X (e :: es) (rdPA X.K W fs))
    (he : starEach (e :: es) X.env = (false, eval e X.env) :: starEach es X.env := by rfl) (hpl : (backTo pos (starEach es X.env)).any (·.1) = false := by rfl) :
    PE X (.Call (.Name x p) (e :: es) [] pos) (rdE X.K W (callB op fs)) := imp_e (pe_callB hc n.gl n.mg n.bt ha n.nn n.db he hpl) (rd_callB hv)
theorem se_callT {id : String} {op : MH → List MV → Option MV} {fs : OM} (hc : CallR X (.type id) r) (hv : VPn X.K r op) (n : NmB X x (.type id)) (ha : PA X (e :: es) (rdPA X.K W fs))
    (he : starEach (e :: es) X.env = (false, eval e X.env) :: starEach es X.env := by rfl) (hpl : (backTo pos (starEach es X.env)).any (·.1) = false := by rfl) :
    PE X (.Call (.Name x p) (e :: es) [] pos) (rdE X.K W (callB op fs)) := imp_e (pe_callTy hc n.gl n.mg n.bt ha n.nn n.db he hpl) (rd_callB hv)
theorem so_callB {id : String} {op : MH → List MV → Option (List MV)} {fs : OM} (hc : CallR X (.builtin id) r) (hv : VOn X.K r op) (n : NmB X x (.builtin id)) (ha : PA X (e :: es) (rdPA X.K W fs))
    (he : starEach (e :: es) X.env = (false, eval e X.env) :: starEach es X.env := by rfl) (hpl : (backTo pos (starEach es X.env)).any (·.1) = false := by rfl) :
    PE X (.Call (.Name x p) (e :: es) [] pos) (rdO X.K W (callBO op fs)) := imp_e (pe_callB hc n.gl n.mg n.bt ha n.nn n.db he hpl) (rd_callBO hv)
theorem so_callT {id : String} {op : MH → List MV → Option (List MV)} {fs : OM} (hc : CallR X (.type id) r) (hv : VOn X.K r op) (n : NmB X x (.type id)) (ha : PA X (e :: es) (rdPA X.K W fs))
    (he : starEach (e :: es) X.env = (false, eval e X.env) :: starEach es X.env := by rfl) (hpl : (backTo pos (starEach es X.env)).any (·.1) = false := by rfl) :
    PE X (.Call (.Name x p) (e :: es) [] pos) (rdO X.K W (callBO op fs)) := imp_e (pe_callTy hc n.gl n.mg n.bt ha n.nn n.db he hpl) (rd_callBO hv)
end

/-! ### what a value holds -/
/-- a list's items, looked at -/
def seqM (hm : MH) : MV → Option (List MV)
  | .lst xs => some xs
  | .scr xs => some xs
  | .ref n => (match hm.get n with
    | some (.lst xs) => some xs
    | none => none)
  | _ => none
section
variable {K : Kf} {g : Gh} {hm : MH} {H : Hp}
theorem RP.seq {m : MV} {v : V} {xs : List MV} (rl : Rel K g hm H) (r : RP K g hm H m v) (e : seqM hm m = some xs) : ∃ a vs, v = .ref a ∧ SqL K H a vs ∧ RVs K g H xs vs ∧ xs.length ≤ sizeLine := by
  unfold seqM at e
  split at e
  · cases e
    obtain ⟨a, vs, rfl, h, z, rs⟩ := r.lst_inv
    exact ⟨a, vs, rfl, SqL.of h, rs, z⟩
  · cases e
    obtain ⟨a, vs, rfl, h, z, rs⟩ := r.scr_inv
    exact ⟨a, vs, rfl, h, rs, z⟩
  · split at e
    · rename_i n _ ys c
      cases e
      obtain ⟨z, vs, h1, rs⟩ := rl.ob n _ c
      exact ⟨_, vs, r.ref_inv, SqL.of h1, rs, z⟩
    · cases e
  · cases e
def unInt : MV → Option Int
  | .int i => some i
  | _ => none
def unBl : MV → Option Bool
  | .bl i => some i
  | _ => none
def unStr : MV → Option (List Nat)
  | .str i => some i
  | _ => none
def allM {α : Type} (f : MV → Option α) : List MV → Option (List α)
  | [] => some []
  | x :: xs => match f x, allM f xs with
    | some y, some ys => some (y :: ys)
    | _, _ => none
theorem allM_cons {α : Type} {f : MV → Option α} {x : MV} {xs : List MV} {ys : List α} (h : allM f (x :: xs) = some ys) : ∃ y zs, f x = some y ∧ allM f xs = some zs ∧ ys = y :: zs := by
  unfold allM at h
  split at h
  · cases h
    exact ⟨_, _, by assumption, by assumption, rfl⟩
  · cases h
theorem allM_int {xs : List MV} {ns : List Int} (h : allM unInt xs = some ns) : xs = ns.map .int := by
  induction xs generalizing ns with
  | nil => cases h; rfl
  | cons x xs ih =>
    obtain ⟨y, zs, h1, h2, rfl⟩ := allM_cons h
    cases x <;> first | cases h1 | skip
    rw [List.map_cons, ih h2]
theorem allM_bl {xs : List MV} {ns : List Bool} (h : allM unBl xs = some ns) : xs = ns.map .bl := by
  induction xs generalizing ns with
  | nil => cases h; rfl
  | cons x xs ih =>
    obtain ⟨y, zs, h1, h2, rfl⟩ := allM_cons h
    cases x <;> first | cases h1 | skip
    rw [List.map_cons, ih h2]
theorem allM_str {xs : List MV} {ns : List (List Nat)} (h : allM unStr xs = some ns) : xs = ns.map .str := by
  induction xs generalizing ns with
  | nil => cases h; rfl
  | cons x xs ih =>
    obtain ⟨y, zs, h1, h2, rfl⟩ := allM_cons h
    cases x <;> first | cases h1 | skip
    rw [List.map_cons, ih h2]
theorem RVs.ints_inv {ns : List Int} : ∀ {vs : List V}, RVs K g H (ns.map .int) vs → vs = ns.map V.int := by
  induction ns with
  | nil => intro vs r; cases r; rfl
  | cons n ns ih =>
    intro vs r
    cases r with
    | cons r rs =>
      cases r
      rw [ih rs, List.map_cons]
theorem RVs.bls_inv {ns : List Bool} : ∀ {vs : List V}, RVs K g H (ns.map .bl) vs → vs = ns.map V.bl := by
  induction ns with
  | nil => intro vs r; cases r; rfl
  | cons n ns ih =>
    intro vs r
    cases r with
    | cons r rs =>
      cases r
      rw [ih rs, List.map_cons]
abbrev toS (l : List Nat) : Str := ⟨l.toArray⟩
theorem RVs.strs_inv {ns : List (List Nat)} : ∀ {vs : List V}, RVs K g H (ns.map .str) vs → vs = (ns.map toS).map V.str := by
  induction ns with
  | nil => intro vs r; cases r; rfl
  | cons n ns ih =>
    intro vs r
    cases r with
    | cons r rs =>
      cases r
      rw [ih rs]; rfl
theorem RVs.strs' {ns : List Str} : RVs K g H (ns.map fun s => .str s.cps.toList) (ns.map V.str) := by
  induction ns with
  | nil => exact .nil
  | cons n ns ih => exact .cons (.str n.cps.toList) ih
end
theorem RPs.one {K : Kf} {g : Gh} {hm : MH} {H : Hp} {x : MV} {vs : List V} (r : RPs K g hm H [x] vs) : ∃ v, vs = [v] ∧ RP K g hm H x v := by
  cases r with
  | cons r rs => cases rs; exact ⟨_, rfl, r⟩
theorem RPs.two {K : Kf} {g : Gh} {hm : MH} {H : Hp} {x y : MV} {vs : List V} (r : RPs K g hm H [x, y] vs) : ∃ v w, vs = [v, w] ∧ RP K g hm H x v ∧ RP K g hm H y w := by
  cases r with
  | cons r rs => cases rs with
    | cons r2 rs => cases rs; exact ⟨_, _, rfl, r, r2⟩

/-! ### len -/
def mvLen (hm : MH) : MV → Option Nat
  | .tup xs => some xs.length
  | .str s => if s.length ≤ zl then some s.length else none
  | m => (seqM hm m).map List.length
def lenM : MH → List MV → Option MV := fun hm xs => match xs with
  | [x] => (mvLen hm x).map fun n => .int n
  | _ => none
abbrev rLen' (K : Kf) : RN := fun xs H Q => ∃ x n, xs = [x] ∧ LenV K x H n ∧ Q (.int n) H
section
variable {K : Kf}
theorem vp_len : VPn K (rLen' K) lenM := by
  intro g hm H xs vs m Q rl ps e k
  unfold lenM at e
  split at e
  · rename_i x
    obtain ⟨v, rfl, px⟩ := ps.one
    cases c : mvLen hm x with
    | none => rw [c] at e; cases e
    | some n =>
      rw [c] at e
      cases e
      refine ⟨v, n, rfl, ?_, k g H _ (.refl rl) (.int _)⟩
      unfold mvLen at c
      split at c
      · cases c
        obtain ⟨a, ws, rfl, h1, rs⟩ := px.tup_inv
        exact .inr ⟨ws, h1, rs.length⟩
      · split at c
        · rename_i s c2
          cases c
          have := px.str_inv
          subst this
          exact ⟨by rw [str_len, zl_eq]; exact c2, (str_len s).symm⟩
        · cases c
      · cases q : seqM hm x with
        | none => rw [q] at c; cases c
        | some ys =>
          rw [q] at c
          cases c
          obtain ⟨a, ws, rfl, h1, rs, z⟩ := px.seq rl q
          exact .inl ⟨ws, h1, rs.length⟩
  · cases e

/-! ### all, any, sum, max, min, abs, int, gcd, bit_length -/
def onBls (f : List Bool → Bool) : MH → List MV → Option MV := fun hm xs => match xs with
  | [x] => (match seqM hm x with
    | some ys => (allM unBl ys).map fun bs => .bl (f bs)
    | none => none)
  | _ => none
theorem onBls_some {f : List Bool → Bool} {g : Gh} {hm : MH} {H : Hp} {xs : List MV} {vs : List V} {m : MV} (rl : Rel K g hm H) (ps : RPs K g hm H xs vs) (e : onBls f hm xs = some m) : ∃ a bs, vs = [V.ref a] ∧ SqL K H a (bs.map V.bl) ∧ m = .bl (f bs) := by
  unfold onBls at e
  split at e
  · rename_i x
    obtain ⟨v, rfl, px⟩ := ps.one
    split at e
    · rename_i ys c
      obtain ⟨a, ws, rfl, h1, rs, z⟩ := px.seq rl c
      cases q : allM unBl ys with
      | none => rw [q] at e; cases e
      | some bs =>
        rw [q] at e
        cases e
        rw [allM_bl q] at rs
        rw [rs.bls_inv] at h1
        exact ⟨a, bs, rfl, h1, rfl⟩
    · cases e
  · cases e
def allBM : MH → List MV → Option MV := onBls fun bs => bs.all id
def anyBM : MH → List MV → Option MV := onBls fun bs => bs.any id
theorem vp_all : VPn K (rAll K) allBM := by
  intro g hm H xs vs m Q rl ps e k
  obtain ⟨a, bs, rfl, h1, rfl⟩ := onBls_some rl ps e
  exact ⟨a, bs, rfl, h1, k g H _ (.refl rl) (.bl _)⟩
theorem vp_any : VPn K (rAny K) anyBM := by
  intro g hm H xs vs m Q rl ps e k
  obtain ⟨a, bs, rfl, h1, rfl⟩ := onBls_some rl ps e
  exact ⟨a, bs, rfl, h1, k g H _ (.refl rl) (.bl _)⟩
def onInts (f : List Int → Option Int) : MH → List MV → Option MV := fun hm xs => match xs with
  | [x] => (match seqM hm x with
    | some ys => (match allM unInt ys with
      | some ns => (f ns).map .int
      | none => none)
    | none => none)
  | _ => none
theorem onInts_some {f : List Int → Option Int} {g : Gh} {hm : MH} {H : Hp} {xs : List MV} {vs : List V} {m : MV} (rl : Rel K g hm H) (ps : RPs K g hm H xs vs) (e : onInts f hm xs = some m) : ∃ a ns i, vs = [V.ref a] ∧ SqL K H a (ns.map V.int) ∧ f ns = some i ∧ m = .int i := by
  unfold onInts at e
  split at e
  · rename_i x
    obtain ⟨v, rfl, px⟩ := ps.one
    split at e
    · rename_i ys c
      obtain ⟨a, ws, rfl, h1, rs, z⟩ := px.seq rl c
      split at e
      · rename_i ns q
        rw [allM_int q] at rs
        rw [rs.ints_inv] at h1
        cases q2 : f ns with
        | none => rw [q2] at e; cases e
        | some i =>
          rw [q2] at e
          cases e
          exact ⟨a, ns, i, rfl, h1, q2, rfl⟩
      · cases e
    · cases e
  · cases e
def sumM : MH → List MV → Option MV := onInts fun ns => some ns.sum
theorem vp_sum : VPn K (rSum K) sumM := by
  intro g hm H xs vs m Q rl ps e k
  obtain ⟨a, ns, i, rfl, h1, q, rfl⟩ := onInts_some rl ps e
  cases q
  exact ⟨a, ns, rfl, h1, k g H _ (.refl rl) (.int _)⟩
def maxL : List Int → Option Int
  | [] => none
  | x :: xs => some (xs.foldl max x)
def minL : List Int → Option Int
  | [] => none
  | x :: xs => some (xs.foldl min x)
theorem foldl_max_ge (xs : List Int) : ∀ x, x ≤ xs.foldl max x ∧ ∀ y ∈ xs, y ≤ xs.foldl max x := by
  induction xs with
  | nil => intro x; exact ⟨Int.le_refl _, fun y h => by cases h⟩
  | cons z zs ih =>
    intro x
    obtain ⟨h1, h2⟩ := ih (max x z)
    refine ⟨Int.le_trans (Int.le_max_left x z) h1, fun y hy => ?_⟩
    rcases List.mem_cons.mp hy with e | hy
    · rw [e]; exact Int.le_trans (Int.le_max_right x z) h1
    · exact h2 y hy
theorem foldl_max_mem (xs : List Int) : ∀ x, xs.foldl max x = x ∨ xs.foldl max x ∈ xs := by
  induction xs with
  | nil => intro x; exact .inl rfl
  | cons z zs ih =>
    intro x
    rcases ih (max x z) with h | h
    · rcases Int.le_total x z with c | c
      · rw [Int.max_eq_right c] at h
        exact .inr (by rw [List.foldl_cons, Int.max_eq_right c, h]; exact List.mem_cons_self)
      · rw [Int.max_eq_left c] at h
        exact .inl (by rw [List.foldl_cons, Int.max_eq_left c, h])
    · exact .inr (List.mem_cons_of_mem _ h)
theorem foldl_min_le (xs : List Int) : ∀ x, xs.foldl min x ≤ x ∧ ∀ y ∈ xs, xs.foldl min x ≤ y := by
  induction xs with
  | nil => intro x; exact ⟨Int.le_refl _, fun y h => by cases h⟩
  | cons z zs ih =>
    intro x
    obtain ⟨h1, h2⟩ := ih (min x z)
    refine ⟨Int.le_trans h1 (Int.min_le_left x z), fun y hy => ?_⟩
    rcases List.mem_cons.mp hy with e | hy
    · rw [e]; exact Int.le_trans h1 (Int.min_le_right x z)
    · exact h2 y hy
theorem foldl_min_mem (xs : List Int) : ∀ x, xs.foldl min x = x ∨ xs.foldl min x ∈ xs := by
  induction xs with
  | nil => intro x; exact .inl rfl
  | cons z zs ih =>
    intro x
    rcases ih (min x z) with h | h
    · rcases Int.le_total x z with c | c
      · rw [Int.min_eq_left c] at h
        exact .inl (by rw [List.foldl_cons, Int.min_eq_left c, h])
      · rw [Int.min_eq_right c] at h
        exact .inr (by rw [List.foldl_cons, Int.min_eq_right c, h]; exact List.mem_cons_self)
    · exact .inr (List.mem_cons_of_mem _ h)
def maxM : MH → List MV → Option MV := fun hm xs => match xs with
  | [.int i, .int j] => some (.int (if j > i then j else i))
  | xs => onInts maxL hm xs
def minM : MH → List MV → Option MV := fun hm xs => match xs with
  | [.int i, .int j] => some (.int (if j < i then j else i))
  | xs => onInts minL hm xs
abbrev rMax2 : RN := fun xs H Q => ∃ i j, xs = [.int i, .int j] ∧ Q (.int (if j > i then j else i)) H
abbrev rMin2 : RN := fun xs H Q => ∃ i j, xs = [.int i, .int j] ∧ Q (.int (if j < i then j else i)) H
abbrev rMaxM (K : Kf) : RN := fun xs H Q => rMax2 xs H Q ∨ rMax K xs H Q
abbrev rMinM (K : Kf) : RN := fun xs H Q => rMin2 xs H Q ∨ rMin K xs H Q
theorem cr_maxM {X : Cx} (hc : X.calm = true) : CallR X (.builtin "max") (rMaxM X.K) := (call_max2 hc).or (cr_max hc)
theorem cr_minM {X : Cx} (hc : X.calm = true) : CallR X (.builtin "min") (rMinM X.K) := (call_min2 hc).or (cr_min hc)
theorem vp_max : VPn K (rMaxM K) maxM := by
  intro g hm H xs vs m Q rl ps e k
  unfold maxM at e
  split at e
  · cases e
    obtain ⟨v, w, rfl, p1, p2⟩ := ps.two
    exact .inl ⟨_, _, by rw [p1.int_inv, p2.int_inv], k g H _ (.refl rl) (.int _)⟩
  · obtain ⟨a, ns, i, rfl, h1, q, rfl⟩ := onInts_some rl ps e
    refine .inr ⟨a, ns, rfl, h1, ?_⟩
    cases ns with
    | nil => cases q
    | cons x r =>
      cases q
      refine ⟨by simp, fun mx hx hmax => ?_⟩
      have hge := foldl_max_ge r x
      have hmem := foldl_max_mem r x
      have e1 : mx = r.foldl max x := by
        refine Int.le_antisymm ?_ ?_
        · rcases List.mem_cons.mp hx with e | hx
          · rw [e]; exact hge.1
          · exact hge.2 _ hx
        · refine hmax _ ?_
          rcases hmem with e | e
          · rw [e]; exact List.mem_cons_self
          · exact List.mem_cons_of_mem _ e
      rw [e1]
      exact k g H _ (.refl rl) (.int _)
theorem vp_min : VPn K (rMinM K) minM := by
  intro g hm H xs vs m Q rl ps e k
  unfold minM at e
  split at e
  · cases e
    obtain ⟨v, w, rfl, p1, p2⟩ := ps.two
    exact .inl ⟨_, _, by rw [p1.int_inv, p2.int_inv], k g H _ (.refl rl) (.int _)⟩
  · obtain ⟨a, ns, i, rfl, h1, q, rfl⟩ := onInts_some rl ps e
    refine .inr ⟨a, ns, rfl, h1, ?_⟩
    cases ns with
    | nil => cases q
    | cons x r =>
      cases q
      refine ⟨by simp, fun mx hx hmax => ?_⟩
      have hge := foldl_min_le r x
      have hmem := foldl_min_mem r x
      have e1 : mx = r.foldl min x := by
        refine Int.le_antisymm ?_ ?_
        · refine hmax _ ?_
          rcases hmem with e | e
          · rw [e]; exact List.mem_cons_self
          · exact List.mem_cons_of_mem _ e
        · rcases List.mem_cons.mp hx with e | hx
          · rw [e]; exact hge.1
          · exact hge.2 _ hx
      rw [e1]
      exact k g H _ (.refl rl) (.int _)
def absM : MH → List MV → Option MV := fun _ xs => match xs with
  | [.int i] => some (.int (if i < 0 then -i else i))
  | _ => none
theorem vp_abs : VPn K (fun xs H Q => ∃ i, xs = [.int i] ∧ Q (.int (if i < 0 then -i else i)) H) absM := by
  intro g hm H xs vs m Q rl ps e k
  unfold absM at e
  split at e
  · cases e
    obtain ⟨v, rfl, p1⟩ := ps.one
    exact ⟨_, by rw [p1.int_inv], k g H _ (.refl rl) (.int _)⟩
  · cases e
def intM : MH → List MV → Option MV := fun _ xs => match xs with
  | [.int i] => some (.int i)
  | [.bl b] => some (.int (if b then 1 else 0))
  | _ => none
theorem vp_toInt : VPn K (fun xs H Q => (∃ i, xs = [.int i] ∧ Q (.int i) H) ∨ ∃ k, xs = [.bl k] ∧ Q (.int (if k then 1 else 0)) H) intM := by
  intro g hm H xs vs m Q rl ps e k
  unfold intM at e
  split at e
  · cases e
    obtain ⟨v, rfl, p1⟩ := ps.one
    exact .inl ⟨_, by rw [p1.int_inv], k g H _ (.refl rl) (.int _)⟩
  · cases e
    obtain ⟨v, rfl, p1⟩ := ps.one
    exact .inr ⟨_, by rw [p1.bl_inv], k g H _ (.refl rl) (.int _)⟩
  · cases e
def gcdM : MH → List MV → Option MV := fun _ xs => match xs with
  | [.int i, .int j] => some (.int (Nat.gcd i.natAbs j.natAbs))
  | _ => none
theorem vp_gcd : VPn K rGcd gcdM := by
  intro g hm H xs vs m Q rl ps e k
  unfold gcdM at e
  split at e
  · cases e
    obtain ⟨v, w, rfl, p1, p2⟩ := ps.two
    exact ⟨_, _, by rw [p1.int_inv, p2.int_inv], k g H _ (.refl rl) (.int _)⟩
  · cases e
def bitsM : MH → MV → Option MV := fun _ x => match x with
  | .int i => some (.int (Builtin.Int.intBits i : Nat))
  | _ => none
def decS (i : Int) : List Nat := (toString i : Str).cps.toList
def strM : MH → List MV → Option MV := fun _ xs => match xs with
  | [.int i] => if i.natAbs < 2 ^ 1900 then some (.str (decS i)) else none
  | _ => none
theorem toS_of (s : Str) : (⟨s.cps.toList.toArray⟩ : Str) = s := by cases s; simp
theorem vp_str : VPn K (fun xs H Q => ∃ i, xs = [.int i] ∧ i.natAbs.log2 < 1920 ∧ Q (.str (toString i)) H) strM := by
  intro g hm H xs vs m Q rl ps e k
  unfold strM at e
  split at e
  · rename_i i
    split at e
    · rename_i c
      cases e
      obtain ⟨v, rfl, p1⟩ := ps.one
      refine ⟨i, by rw [p1.int_inv], PySem.Flt.log2_lt_of (by decide) (Nat.lt_of_lt_of_le c (Nat.pow_le_pow_right (by decide) (by decide))), ?_⟩
      have z := k g H _ (.refl rl) (.str (decS i))
      unfold decS at z
      rw [toS_of] at z
      exact z
    · cases e
  · cases e
end
section
variable {K : Kf} {W : WX} {X : Cx} {a : Expr} {pos apos p : Pos} {x : Str} {e : Expr} {es : List Expr}
theorem se_bits {fa : EM} (ha : PE X a (rdP X.K W fa)) (hbase : attributeBase a "bit_length" X.env (eval a X.env) = eval a X.env := by rfl) (hline : (apos.endLine == pos.line) = true := by rfl) :
    PE X (.Call (.Attribute a "bit_length" apos) [] [] pos) (rdE X.K W (un1 bitsM fa)) := imp_e (pe_bits ha hbase hline) fun σ H Q h =>
  rdP_mono (Mid.start h).step fun vx H1 ⟨x, c⟩ => by
    obtain ⟨g, σm, hm, rl, R, ps, p⟩ := c
    cases ps with
    | cons px ps =>
      have p : Post X.K W g hm σ H1 (optR (bitsM hm x) hm) fun m g' _ H' => ∀ v, RV X.K g' H' m v → Q v H' := p
      cases e : bitsM hm x with
      | none => rw [e] at p; exact p.elim
      | some m =>
        rw [e] at p
        unfold bitsM at e
        split at e
        · cases e
          exact ⟨_, px.int_inv, p g H1 (.refl rl) _ (.int _)⟩
        · cases e
structure NmF (X : Cx) (x : Str) (id : String) : Prop where
  gl : Gl X x
  mg : X.mg x = some (.builtin id)
  db : (x == ("__debug__" : Str)) = false
theorem se_gcd {fs : OM} (n : NmF X x "math.gcd") (ha : PA X (e :: es) (rdPA X.K W fs))
    (he : starEach (e :: es) X.env = (false, eval e X.env) :: starEach es X.env := by rfl) (hpl : (backTo pos (starEach es X.env)).any (·.1) = false := by rfl) :
    PE X (.Call (.Name x p) (e :: es) [] pos) (rdE X.K W (callB gcdM fs)) := imp_e (pe_callBfun cr_gcd n.gl n.mg ha n.db he hpl) (rd_callB vp_gcd)
end

/-! ### isinstance -/
inductive Ty where
  | non | bool | int | str | tuple | list | dict
  deriving DecidableEq
def Ty.s : Ty → String
  | .non => "NoneType" | .bool => "bool" | .int => "int" | .str => "str" | .tuple => "tuple" | .list => "list" | .dict => "dict"
def isB : Ty → Ty → Bool
  | .bool, .int => true
  | a, b => decide (a = b)
theorem kit_isB (a b : Ty) (h : b ≠ .non) : kitB a.s b.s = some (isB a b) := by
  cases b <;> first | exact absurd rfl h | (cases a <;> decide +kernel)
def tyM (hm : MH) : MV → Option Ty
  | .non => some .non
  | .bl _ => some .bool
  | .int _ => some .int
  | .str _ => some .str
  | .tup _ => some .tuple
  | .lst _ => some .list
  | .scr _ => some .list
  | .dic _ => some .dict
  | .ref n => (match hm.get n with
    | some (.lst _) => some .list
    | none => none)
  | .exc _ _ => none
theorem tyX_of {K : Kf} {g : Gh} {hm : MH} {H : Hp} {m : MV} {v : V} {t : Ty} (rl : Rel K g hm H) (r : RP K g hm H m v) (e : tyM hm m = some t) : TyX K H v (.type t.s) := by
  cases r with
  | of r =>
    cases r with
    | non => cases e; exact .base .non
    | bl b => cases e; exact .base (.bl b)
    | int i => cases e; exact .base (.int i)
    | str s => cases e; exact .base (.str _)
    | tup f h z rs => cases e; exact .base (.tup h)
    | tupK w rs =>
      cases e
      obtain ⟨o, its, n, h1, h2, _⟩ := w
      exact .kTuple h1 h2
    | lst f h z rs => cases e; exact .base (.lst h)
    | scr h z rs =>
      cases e
      rcases h with ⟨f, o, h⟩ | ⟨o, its, n, h1, h2, _⟩
      · exact .base (.frz h)
      · exact .kList h1 h2
    | dic f h rs => cases e; exact .base (.dK h)
    | ref n hn =>
      unfold tyM at e
      cases c : hm.get n with
      | none => simp only [c] at e; cases e
      | some o =>
        cases o with
        | lst xs =>
          simp only [c] at e
          cases e
          obtain ⟨z, vs, h1, rs⟩ := rl.ob n _ c
          exact .base (.lst h1)
  | own z ha rv nl => cases e; exact .base (.lst ha)
def isiM (b : Ty) : MH → MV → Option MV := fun hm x => (tyM hm x).map fun a => .bl (isB a b)
def isiTM (bs : List Ty) : MH → MV → Option MV := fun hm x => (tyM hm x).map fun a => .bl (bs.any (isB a))
def tTys (bs : List Ty) : TA := fun _ H Q => Q (bs.map fun b => V.ty b.s) H
section
variable {K : Kf} {W : WX} {X : Cx} {a : Expr} {pos p pp p2 : Pos} {x c : Str} {e : Expr} {es : List Expr}
theorem sty_nil : PA X [] (tTys []) := imp_a pa_nil fun σ H Q h => h
theorem sty_cons {b : Ty} {bs : List Ty} (n : NmB X c (.type b.s)) (hr : PA X es (tTys bs)) (hs : starEach (.Name c pp :: es) X.env = (false, eval (.Name c pp) X.env) :: starEach es X.env := by rfl) : PA X (.Name c pp :: es) (tTys (b :: bs)) :=
  imp_a (pa_cons (pe_bltn (v := .ty b.s) n.gl n.mg n.bt rfl n.nn n.db) hr hs) fun σ H Q h => h
theorem se_isi {b : Ty} {fa : EM} (n : NmB X x (.builtin "isinstance")) (n2 : NmB X c (.type b.s)) (hb : b ≠ .non) (ha : PE X a (rdP X.K W fa))
    (hs : starEach [a, .Name c pp] X.env = (false, eval a X.env) :: starEach [.Name c pp] X.env := by rfl) :
    PE X (.Call (.Name x p) [a, .Name c pp] [] pos) (rdE X.K W (un1 (isiM b) fa)) :=
  imp_e (pe_callB call_isi n.gl n.mg n.bt (pa_cons ha (sty_cons n2 sty_nil) hs) n.nn n.db hs) fun σ H Q h =>
    rdP_mono (Mid.start h).step fun vx H1 ⟨x, c⟩ => by
      obtain ⟨g, σm, hm, rl, R, ps, p⟩ := c
      cases ps with
      | cons px ps =>
        have p : Post X.K W g hm σ H1 (optR (isiM b hm x) hm) fun m g' _ H' => ∀ v, RV X.K g' H' m v → Q v H' := p
        unfold isiM at p
        cases e : tyM hm x with
        | none => rw [e] at p; exact p.elim
        | some t =>
          rw [e] at p
          exact ⟨vx, .ty b.s, .type t.s, .type b.s, isB t b, rfl, .ty _, tyX_of rl px e, kit_ty (kit_isB t b hb), p g H1 (.refl rl) _ (.bl _)⟩
theorem kitAny_tys (t : Ty) : ∀ bs : List Ty, (∀ b ∈ bs, b ≠ .non) → PySem.W.kitAny K (.type t.s) (bs.map fun b => Value.type b.s) = some (bs.any (isB t))
  | [], _ => kitAny_nil
  | b :: bs, h => by
    rw [List.map_cons, List.any_cons]
    refine kitAny_cons (b := isB t b) (kit_ty (kit_isB t b (h b List.mem_cons_self))) (fun e => ?_) (fun e => ?_)
    · rw [e, Bool.false_or]
      exact kitAny_tys t bs fun b hb => h b (List.mem_cons_of_mem _ hb)
    · rw [e]; rfl
theorem clsV_tys : ∀ bs : List Ty, Paired ClsV (bs.map fun b => V.ty b.s) (bs.map fun b => Value.type b.s)
  | [] => .nil
  | b :: bs => .cons (.ty _) (clsV_tys bs)
theorem se_isiT {bs : List Ty} {fa : EM} {k} (n : NmB X x (.builtin "isinstance")) (n2 : PA X es (tTys bs)) (hb : ∀ b ∈ bs, b ≠ .non) (hl : bs.length ≤ zl) (ha : PE X a (rdP X.K W fa))
    (hs : starEach [a, .Tuple es k pp] X.env = (false, eval a X.env) :: starEach [.Tuple es k pp] X.env := by rfl) :
    PE X (.Call (.Name x p) [a, .Tuple es k pp] [] pos) (rdE X.K W (un1 (isiTM bs) fa)) :=
  imp_e (pe_callB call_isiT n.gl n.mg n.bt (pa_cons ha (pa_cons (pe_tup n2) pa_nil) hs) n.nn n.db hs) fun σ H Q h =>
    rdP_mono (Mid.start h).step fun vx H1 ⟨x, c⟩ => by
      obtain ⟨g, σm, hm, rl, R, ps, p⟩ := c
      cases ps with
      | cons px ps =>
        have p : Post X.K W g hm σ H1 (optR (isiTM bs hm x) hm) fun m g' _ H' => ∀ v, RV X.K g' H' m v → Q v H' := p
        unfold isiTM at p
        cases e : tyM hm x with
        | none => rw [e] at p; exact p.elim
        | some t =>
          rw [e] at p
          refine ⟨by rw [List.length_map, zl_eq]; exact hl, fun q hq => ?_⟩
          have ex := Ext.fz (o := .tup (bs.map fun b => V.ty b.s)) rl hq
          exact ⟨vx, q, _, .type t.s, _, bs.any (isB t), rfl, upd_same, clsV_tys bs, tyX_of ex.rel (px.ext rl ex) e, kitAny_tys t bs hb, p _ _ ex _ (.bl _)⟩
end
end Mi
end P_M8
section P_M9
set_option Elab.async false
set_option linter.all false
set_option maxRecDepth 100000
set_option maxHeartbeats 4000000
set_option exponentiation.threshold 10000
/-! M9: lists, tuples, texts, slices, what is walked, changes in place, dicts -/
namespace Mi
open PySem PySem.Spec PyProof.Rows L2 TL

/-! ### tuple(x), list(x), sorted(x) -/
def tupleM : MH → List MV → Option MV := fun hm xs => match xs with
  | [.tup ys] => some (.tup ys)
  | [x] => (seqM hm x).map .tup
  | _ => none
def listM : MH → List MV → Option (List MV) := fun hm xs => match xs with
  | [.tup ys] => if ys.length ≤ zl then some ys else none
  | [x] => seqM hm x
  | _ => none
def sortI (ns : List Int) : List Int := ns.mergeSort fun a b => decide (a ≤ b)
def sortedM : MH → List MV → Option (List MV) := fun hm xs => match xs with
  | [x] => (match seqM hm x with
    | some ys => (allM unInt ys).map fun ns => (sortI ns).map .int
    | none => none)
  | _ => none
theorem sortI_pw (ns : List Int) : (sortI ns).Pairwise (· ≤ ·) := by
  have h := List.pairwise_mergeSort (le := fun a b : Int => decide (a ≤ b)) (by
    intro a b c h1 h2
    simp only [decide_eq_true_eq] at h1 h2 ⊢
    exact Int.le_trans h1 h2) (by
    intro a b
    simp only [Bool.or_eq_true, decide_eq_true_eq]
    exact Int.le_total a b) ns
  exact h.imp fun h => by simpa using h
theorem sortI_perm (ns : List Int) : (sortI ns).Perm ns := List.mergeSort_perm ns _
theorem sortI_uniq {ns ns' : List Int} (h : ns'.Perm ns) (hp : ns'.Pairwise (· ≤ ·)) : ns' = sortI ns :=
  List.Perm.eq_of_pairwise (fun a b _ _ h1 h2 => Int.le_antisymm h1 h2) hp (sortI_pw ns) (h.trans (sortI_perm ns).symm)
section
variable {K : Kf}
theorem vp_tuple : VPn K (fun xs H Q => ∃ p ys, xs = [.ref p] ∧ ((SqL K H p ys ∧ ∀ l, H l = none → Q (.ref l) (upd H l (.tup ys))) ∨ (SqT K H p ys ∧ Q (.ref p) H))) tupleM := by
  intro g hm H xs vs m Q rl ps e k
  unfold tupleM at e
  split at e
  · cases e
    obtain ⟨v, rfl, px⟩ := ps.one
    obtain ⟨a, ws, rfl, h1, rs⟩ := px.tup_inv
    cases px with
    | of px => exact ⟨a, ws, rfl, .inr ⟨h1, k g H _ (.refl rl) px⟩⟩
  · rename_i x _
    obtain ⟨v, rfl, px⟩ := ps.one
    cases c : seqM hm x with
    | none => rw [c] at e; cases e
    | some ys =>
      rw [c] at e
      cases e
      obtain ⟨a, ws, rfl, h1, rs, z⟩ := px.seq rl c
      refine ⟨a, ws, rfl, .inl ⟨h1, fun l hl => ?_⟩⟩
      have ex := Ext.fz (o := .tup ws) rl hl
      exact k _ _ _ ex (.tup (.inr rfl) upd_same z (rs.up (ex.up rl)))
  · cases e
theorem new_lst {g : Gh} {hm : MH} {H : Hp} {ms : List MV} {ws : List V} {l : Addr} {Q : VK} (rl : Rel K g hm H) (rs : RVs K g H ms ws) (z : ms.length ≤ sizeLine)
    (k : ∀ g' H' a ws, Ext K g hm H g' hm H' → H a = none → H' a = some (.lst ws) → ms.length ≤ sizeLine → RVs K g' H' ms ws → ¬ g'.F a → ¬ Live g' hm a → Q (.ref a) H') (hl : H l = none) : Q (.ref l) (upd H l (.lst ws)) := by
  have ex := Ext.lay (o := .lst ws) rl hl
  exact k _ _ l ws ex hl upd_same z (rs.up (ex.up rl)) (rl.new_nf hl) (rl.new_nl hl)
theorem vo_list : VOn K (fun xs H Q => ∃ p ys, xs = [.ref p] ∧ (SqL K H p ys ∨ SqT K H p ys) ∧ ∀ l, H l = none → Q (.ref l) (upd H l (.lst ys))) listM := by
  intro g hm H xs vs m Q rl ps e k
  unfold listM at e
  split at e
  · split at e
    · rename_i c
      cases e
      obtain ⟨v, rfl, px⟩ := ps.one
      obtain ⟨a, ws, rfl, h1, rs⟩ := px.tup_inv
      exact ⟨a, ws, rfl, .inr h1, fun l hl => new_lst rl rs (by rw [zl_eq]; exact c) k hl⟩
    · cases e
  · obtain ⟨v, rfl, px⟩ := ps.one
    obtain ⟨a, ws, rfl, h1, rs, z⟩ := px.seq rl e
    exact ⟨a, ws, rfl, .inl h1, fun l hl => new_lst rl rs z k hl⟩
  · cases e
theorem vo_sorted : VOn K (rSortedI K) sortedM := by
  intro g hm H xs vs m Q rl ps e k
  unfold sortedM at e
  split at e
  · rename_i x
    obtain ⟨v, rfl, px⟩ := ps.one
    split at e
    · rename_i ys c
      obtain ⟨a, ws, rfl, h1, rs, z⟩ := px.seq rl c
      cases q : allM unInt ys with
      | none => rw [q] at e; cases e
      | some ns =>
        rw [q] at e
        cases e
        have ey := allM_int q
        subst ey
        rw [rs.ints_inv] at h1
        refine ⟨a, ns, rfl, h1, fun ns' p hp1 hp2 hp => ?_⟩
        rw [sortI_uniq hp1 hp2]
        refine new_lst rl RVs.ints ?_ k hp
        rw [List.length_map, (sortI_perm ns).length_eq]
        rw [List.length_map] at z
        exact z
    · cases e
  · cases e
end

/-! ### texts -/
def joinM (s : List Nat) : MH → List MV → Option MV := fun hm xs => match xs with
  | [x] => (match (match x with
      | .tup ys => some ys
      | x => seqM hm x) with
    | some ys => (match allM unStr ys with
      | some ps => if (ps.map List.length).sum + ps.length * s.length ≤ zl then some (.str (joinL s ps)) else none
      | none => none)
    | none => none)
  | _ => none
def splitM (s : List Nat) : MH → List MV → Option (List MV) := fun _ xs => match xs with
  | [.str b] => if 0 < b.length ∧ s.length + 2 ≤ zl ∧ (Txt.split (toS s) (toS b)).length ≤ zl then some ((Txt.split (toS s) (toS b)).map fun p => .str p.cps.toList) else none
  | _ => none
def strE (f : EM) (k : List Nat → Sl → MH → Res MV) : EM := bindE f fun x => match x with
  | .str s => k s
  | _ => fun _ _ => .no
def strO (f : EM) (k : List Nat → Sl → MH → Res (List MV)) : OM := bindE f fun x => match x with
  | .str s => k s
  | _ => fun _ _ => .no
section
variable {K : Kf} {W : WX} {X : Cx} {o e : Expr} {pos apos : Pos}
theorem str_lens (ps : List (List Nat)) : ((ps.map toS).map (·.length)).sum = (ps.map List.length).sum := by
  rw [List.map_map]
  congr 1
theorem joinL_eq (s : List Nat) (ps : List (List Nat)) : Txt.join (toS s) (ps.map toS) = toS (joinL s ps) := by
  rw [join_eq]
  refine ext_tl ?_
  rw [tl_join, List.map_map]
  have e : (tl ∘ toS) = id := funext fun l => rfl
  rw [e, List.map_id]
theorem join_at {g : Gh} {hm : MH} {H : Hp} {s : List Nat} {x : MV} {v : V} {m : MV} {Q : VK} (rl : Rel K g hm H) (px : RP K g hm H x v) (e : joinM s hm [x] = some m) (k : ∀ g' H' v, Ext K g hm H g' hm H' → RV K g' H' m v → Q v H') :
    ∃ a p, ∃ ys : List Str, V.str (toS s) = .str a ∧ [v] = [.ref p] ∧ (SqL K H p (ys.map V.str) ∨ SqT K H p (ys.map V.str)) ∧ (ys.map (·.length)).sum + ys.length * a.length ≤ 16777216 ∧ Q (.str (Txt.join a ys)) H := by
  have fin : ∀ {a : Addr} {ws : List V} {ys : List MV}, (SqL K H a ws ∨ SqT K H a ws) → RVs K g H ys ws → (match allM unStr ys with
      | some ps => if (ps.map List.length).sum + ps.length * s.length ≤ zl then some (.str (joinL s ps)) else none
      | none => (none : Option MV)) = some m → ∃ b p, ∃ ys : List Str, V.str (toS s) = .str b ∧ [V.ref a] = [.ref p] ∧ (SqL K H p (ys.map V.str) ∨ SqT K H p (ys.map V.str)) ∧ (ys.map (·.length)).sum + ys.length * b.length ≤ 16777216 ∧ Q (.str (Txt.join b ys)) H := by
    intro a ws ys hs rs e
    split at e
    · rename_i ps q
      split at e
      · rename_i c
        cases e
        have ey := allM_str q
        subst ey
        rw [rs.strs_inv] at hs
        refine ⟨toS s, a, ps.map toS, rfl, rfl, hs, ?_, ?_⟩
        · rw [str_lens, List.length_map, str_len]; exact c
        · rw [joinL_eq]; exact k g H _ (.refl rl) (.str _)
      · cases e
    · cases e
  cases x with
  | tup ys =>
    unfold joinM at e
    obtain ⟨a, ws, rfl, h1, rs⟩ := px.tup_inv
    exact fin (.inr h1) rs e
  | _ =>
    unfold joinM at e
    dsimp only at e
    split at e
    · rename_i ys c
      obtain ⟨a, ws, rfl, h1, rs, z⟩ := px.seq rl c
      exact fin (.inl h1) rs e
    · cases e
theorem se_join {fo fa : EM} (ho : PE X o (rdP X.K W fo)) (he : PE X e (rdP X.K W fa)) (hs : starEach [e] X.env = [(false, eval e X.env)] := by rfl) (hbase : attributeBase o "join" X.env (eval o X.env) = eval o X.env := by rfl) (hline : (apos.endLine == pos.line) = true := by rfl) :
    PE X (.Call (.Attribute o "join" apos) [e] [] pos) (rdE X.K W (strE fo fun s => un1 (fun h x => joinM s h [x]) fa)) := imp_e (pe_join ho he hs hbase hline) fun σ H Q h =>
  rdP_mono (Mid.start h).step fun vx H1 ⟨x, c⟩ => by
    obtain ⟨g, σm, hm, rl, R, ps, p⟩ := c
    obtain ⟨v1, e1, px⟩ := ps.one
    cases e1
    cases x with
    | str s =>
      have ex := px.str_inv
      subst ex
      refine ⟨⟨_, rfl⟩, rdP_mono (Mid.start ⟨g, σm, hm, rl, R, p⟩).step fun vy H2 ⟨y, c2⟩ => ?_⟩
      obtain ⟨g2, σm2, hm2, rl2, R2, ps2, p2⟩ := c2
      obtain ⟨v1, e1, py⟩ := ps2.one
      cases e1
      have p2 : Post X.K W g2 hm2 σ H2 (optR (joinM s hm2 [y]) hm2) fun m g' _ H' => ∀ v, RV X.K g' H' m v → Q v H' := p2
      cases e : joinM s hm2 [y] with
      | none => rw [e] at p2; exact p2.elim
      | some m =>
        rw [e] at p2
        exact join_at rl2 py e fun g' H' v ex rv => p2 g' H' ex v rv
    | _ => exact False.elim p
theorem so_split {fo fa : EM} (ho : PE X o (rdP X.K W fo)) (he : PE X e (rdP X.K W fa)) (hs : starEach [e] X.env = [(false, eval e X.env)] := by rfl) (hbase : attributeBase o "split" X.env (eval o X.env) = eval o X.env := by rfl) (hline : (apos.endLine == pos.line) = true := by rfl) :
    PE X (.Call (.Attribute o "split" apos) [e] [] pos) (rdO X.K W (strO fo fun s => bindE fa fun x => fun _ h => optR (splitM s h [x]) h)) := imp_e (pe_split ho he hs hbase hline) fun σ H Q h => by
  obtain ⟨g, σm, hm, rl, R, p⟩ := h
  refine ⟨g, σm, hm, rl, R, (Post.bind rl p).mono fun x g1 hm1 H1 e1 q v px => ?_⟩
  cases x with
  | str s =>
    have ex := px.str_inv
    subst ex
    refine ⟨⟨_, rfl⟩, g1, σm, hm1, e1.rel, R.ext rl e1, (Post.bind e1.rel q).mono fun y g2 hm2 H2 e2 p2 vy py => ?_⟩
    have p2 : Post X.K W g2 hm2 σ H2 (optR (splitM s hm2 [y]) hm2) _ := p2
    cases e : splitM s hm2 [y] with
    | none => rw [e] at p2; exact p2.elim
    | some ms =>
      rw [e] at p2
      unfold splitM at e
      split at e
      · rename_i b he
        cases he
        split at e
        · rename_i c
          cases e
          refine ⟨_, _, rfl, by rw [py.str_inv], ?_, by rw [str_len, zl_eq]; exact c.2.1, fun p hp => ?_⟩
          · rw [str_len]
            have := c.1
            cases b with
            | nil => simp at this
            | cons _ _ => rfl
          · exact new_lst e2.rel (ms := (Txt.split (toS s) (toS b)).map fun p => .str p.cps.toList) RVs.strs' (by rw [List.length_map, zl_eq]; exact c.2.2) (fun g' H' a ws ex h0 h1 z rv nf nl => 
              p2 g' H' ex a ws (e1.free (e2.free h0)) h1 z rv nf nl) hp
        · cases e
      · cases e
  | _ => exact False.elim q
end
end Mi
end P_M9
section P_M10
set_option Elab.async false
set_option linter.all false
set_option maxRecDepth 100000
set_option maxHeartbeats 4000000
set_option exponentiation.threshold 10000
/-! M10: slices, what is walked, changes in place, dicts, new objects of the small heap -/
namespace Mi
open PySem PySem.Spec PyProof.Rows L2 TL

/-! ### a[i:j], a[::-1] -/
abbrev PM := Sl → MH → Res (Option Int)
def noP : PM := fun _ h => .ok none h
def prtP (f : EM) : PM := bindE f fun x _ h => match x with
  | .int i => .ok (some i) h
  | _ => .no
def rdTO (K : Kf) (W : WX) (f : PM) : TO := fun σ H Q => Rdg K W σ H f fun o _ _ H' => Q o H'
theorem imp_po {X : Cx} {e : Option Expr} {t t' : TO} (h : PO X e t) (k : ∀ σ H Q, t' σ H Q → t σ H Q) : PO X e t' := ⟨fun pins s σ H Q I q => h.run pins s σ H Q I (k σ H Q q)⟩
def cutL {α : Type} (xs : List α) (lo hi : Option Int) : List α := (xs.drop (HT.sIx xs.length 0 lo)).take (HT.sIx xs.length xs.length hi - HT.sIx xs.length 0 lo)
theorem cutL_length {α : Type} (xs : List α) (lo hi : Option Int) : (cutL xs lo hi).length ≤ xs.length := by
  unfold cutL
  rw [List.length_take, List.length_drop]
  omega
theorem RVs.cut {K : Kf} {g : Gh} {H : Hp} {xs : List MV} {vs : List V} (r : RVs K g H xs vs) (lo hi : Option Int) : RVs K g H (cutL xs lo hi) (cutV vs lo hi) := by
  unfold cutL cutV
  rw [r.length]
  exact (r.drop _).take _
def slO (fe : EM) (fl fh : PM) : OM := bindE fe fun x => bindE fl fun lo => bindE fh fun hi => fun _ h => optR ((seqM h x).map fun xs => cutL xs lo hi) h
def slE (fe : EM) (fl fh : PM) : EM := bindE fe fun x => bindE fl fun lo => bindE fh fun hi => fun _ h => optR (match x with
  | .str s => if s.length ≤ zl then some (.str (cutL s lo hi)) else none
  | .tup xs => if ¬ (HT.sIx xs.length 0 lo = 0 ∧ HT.sIx xs.length xs.length hi = xs.length) ∧ xs.length ≤ zl then some (.tup (cutL xs lo hi)) else none
  | _ => none) h
section
variable {K : Kf} {W : WX} {X : Cx} {e : Expr} {pos p2 : Pos} {lo hi : Option Expr}
theorem spo_none : PO X none (rdTO X.K W noP) := imp_po po_none fun σ H Q h => by
  obtain ⟨g, σm, hm, rl, R, p⟩ := h
  exact p g H (.refl rl)
theorem spo_some {f : EM} (h : PE X e (rdP X.K W f)) : PO X (some e) (rdTO X.K W (prtP f)) := imp_po (po_some h) fun σ H Q h => by
  obtain ⟨g, σm, hm, rl, R, p⟩ := h
  refine ⟨g, σm, hm, rl, R, (Post.bind rl p).mono fun x g1 hm1 H1 e1 q v px => ?_⟩
  cases x with
  | int i => exact ⟨i, px.int_inv, q g1 H1 (.refl e1.rel)⟩
  | _ => exact False.elim q
theorem so_sl {fe : EM} {fl fh : PM} (he : PE X e (rdP X.K W fe)) (hl : PO X lo (rdTO X.K W fl)) (hu : PO X hi (rdTO X.K W fh)) : PE X (.Subscript e (.Slice lo hi none p2) pos) (rdO X.K W (slO fe fl fh)) :=
  imp_e (pe_slice sl_list he hl hu) fun σ H Q h => by
    obtain ⟨g, σm, hm, rl, R, p⟩ := h
    refine ⟨g, σm, hm, rl, R, (Post.bind rl p).mono fun x g1 hm1 H1 e1 p1 v px => ?_⟩
    refine ⟨g1, σm, hm1, e1.rel, R.ext rl e1, (Post.bind e1.rel p1).mono fun lo g2 hm2 H2 e2 p2 => ?_⟩
    refine ⟨g2, σm, hm2, e2.rel, (R.ext rl e1).ext e1.rel e2, (Post.bind e2.rel p2).mono fun hi g3 hm3 H3 e3 p3 => ?_⟩
    have px := (px.ext e1.rel e2).ext e2.rel e3
    have p3 : Post X.K W g3 hm3 σ H3 (optR ((seqM hm3 x).map fun xs => cutL xs lo hi) hm3) _ := p3
    cases c : seqM hm3 x with
    | none => rw [c] at p3; exact p3.elim
    | some xs =>
      rw [c] at p3
      obtain ⟨a, ws, rfl, h1, rs, z⟩ := px.seq e3.rel c
      refine ⟨a, ws, rfl, h1, fun l hl => ?_⟩
      exact new_lst e3.rel (ms := cutL xs lo hi) (rs.cut lo hi) (Nat.le_trans (cutL_length xs lo hi) z) (fun g' H' a ws ex h0 h1 z rv nf nl => p3 g' H' ex a ws (e1.free (e2.free (e3.free h0))) h1 z rv nf nl) hl
theorem se_sl {fe : EM} {fl fh : PM} (he : PE X e (rdP X.K W fe)) (hl : PO X lo (rdTO X.K W fl)) (hu : PO X hi (rdTO X.K W fh)) : PE X (.Subscript e (.Slice lo hi none p2) pos) (rdE X.K W (slE fe fl fh)) :=
  imp_e (pe_slice (sl_str.or sl_tup) he hl hu) fun σ H Q h => by
    obtain ⟨g, σm, hm, rl, R, p⟩ := h
    refine ⟨g, σm, hm, rl, R, (Post.bind rl p).mono fun x g1 hm1 H1 e1 p1 v px => ?_⟩
    refine ⟨g1, σm, hm1, e1.rel, R.ext rl e1, (Post.bind e1.rel p1).mono fun lo g2 hm2 H2 e2 p2 => ?_⟩
    refine ⟨g2, σm, hm2, e2.rel, (R.ext rl e1).ext e1.rel e2, (Post.bind e2.rel p2).mono fun hi g3 hm3 H3 e3 p3 => ?_⟩
    have px := (px.ext e1.rel e2).ext e2.rel e3
    cases x with
    | str s =>
      have p3 : Post X.K W g3 hm3 σ H3 (optR (if s.length ≤ zl then some (.str (cutL s lo hi)) else none) hm3) fun m g' _ H' => ∀ v, RV X.K g' H' m v → Q v H' := p3
      by_cases c : s.length ≤ zl
      · rw [if_pos c] at p3
        refine .inl ⟨_, px.str_inv, by rw [str_len, zl_eq]; exact c, ?_⟩
        have e : cutS (toS s) lo hi = toS (cutL s lo hi) := by
          unfold cutS cutL
          rw [str_len]
        rw [e]
        exact p3 g3 H3 (.refl e3.rel) _ (.str _)
      · rw [if_neg c] at p3
        exact p3.elim
    | tup xs =>
      have p3 : Post X.K W g3 hm3 σ H3 (optR (if ¬ (HT.sIx xs.length 0 lo = 0 ∧ HT.sIx xs.length xs.length hi = xs.length) ∧ xs.length ≤ zl then some (.tup (cutL xs lo hi)) else none) hm3) fun m g' _ H' => ∀ v, RV X.K g' H' m v → Q v H' := p3
      by_cases c : ¬ (HT.sIx xs.length 0 lo = 0 ∧ HT.sIx xs.length xs.length hi = xs.length) ∧ xs.length ≤ zl
      · rw [if_pos c] at p3
        obtain ⟨a, ws, rfl, h1, rs⟩ := px.tup_inv
        refine .inr ⟨a, ws, rfl, h1, by rw [← rs.length]; exact c.1, fun l hl => ?_⟩
        have ex := Ext.fz (o := .tup (cutV ws lo hi)) e3.rel hl
        exact p3 _ _ ex _ (.tup (.inr rfl) upd_same (by rw [zl_eq]; exact Nat.le_trans (cutL_length xs lo hi) c.2) ((rs.cut lo hi).up (ex.up e3.rel)))
      · rw [if_neg c] at p3
        exact p3.elim
    | _ => exact False.elim p3
def revO (fe : EM) : OM := bindE fe fun x => fun _ h => optR ((seqM h x).map List.reverse) h
theorem so_rev {fe : EM} {k} {p1 p2 p3 : Pos} (he : PE X e (rdP X.K W fe)) : PE X (.Subscript e (.Slice none none (some (.UnaryOp .USub (.Constant (.int 1) k p1) p2)) p3) pos) (rdO X.K W (revO fe)) :=
  imp_e (pe_revL he) fun σ H Q h => by
    obtain ⟨g, σm, hm, rl, R, p⟩ := h
    refine ⟨g, σm, hm, rl, R, (Post.bind rl p).mono fun x g1 hm1 H1 e1 p1 v px => ?_⟩
    have p1 : Post X.K W g1 hm1 σ H1 (optR ((seqM hm1 x).map List.reverse) hm1) _ := p1
    cases c : seqM hm1 x with
    | none => rw [c] at p1; exact p1.elim
    | some xs =>
      rw [c] at p1
      obtain ⟨a, ws, rfl, h1, rs, z⟩ := px.seq e1.rel c
      refine ⟨a, ws, rfl, h1, fun l hl => ?_⟩
      exact new_lst e1.rel (ms := xs.reverse) rs.reverse (by rw [List.length_reverse]; exact z) (fun g' H' a ws ex h0 h1 z rv nf nl => p1 g' H' ex a ws (e1.free h0) h1 z rv nf nl) hl
end

/-! ### range, zip, the signs of a text -/
def rng (a b : Int) : List MV := (List.range (b - a).toNat).map fun i => .int (a + (i : Nat))
def rngD (a b : Int) : List MV := (List.range (a - b).toNat).map fun i => .int (a - (i : Nat))
def sml (i : Int) : Bool := decide (-(2 ^ 62) ≤ i) && decide (i < 2 ^ 62)
theorem sml_iff {i : Int} : sml i = true ↔ -(2 ^ 62) ≤ i ∧ i < 2 ^ 62 := by simp [sml]
def rng1M (xs : List MV) : Option (List MV) := match xs with
  | [.int b] => if sml b = true then some (rng 0 b) else none
  | _ => none
def rng2M (xs : List MV) : Option (List MV) := match xs with
  | [.int a, .int b] => if sml a = true ∧ sml b = true then some (rng a b) else none
  | _ => none
def rng3M (xs : List MV) : Option (List MV) := match xs with
  | [.int a, .int b, .int c] => if sml a = true ∧ sml b = true ∧ c = -1 then some (rngD a b) else none
  | _ => none
def itB (op : List MV → Option (List MV)) (fs : OM) : OM := bindE fs fun xs => fun _ h => optR (op xs) h
theorem rng_get {a b : Int} {i : Nat} {m : MV} (h : (rng a b)[i]? = some m) : i < (b - a).toNat ∧ m = .int (a + (i : Nat)) := by
  unfold rng at h
  rw [List.getElem?_map] at h
  by_cases c : i < (b - a).toNat
  · rw [List.getElem?_range c] at h
    cases h
    exact ⟨c, rfl⟩
  · rw [List.getElem?_eq_none (by simpa using c)] at h
    cases h
theorem rngD_get {a b : Int} {i : Nat} {m : MV} (h : (rngD a b)[i]? = some m) : i < (a - b).toNat ∧ m = .int (a - (i : Nat)) := by
  unfold rngD at h
  rw [List.getElem?_map] at h
  by_cases c : i < (a - b).toNat
  · rw [List.getElem?_range c] at h
    cases h
    exact ⟨c, rfl⟩
  · rw [List.getElem?_eq_none (by simpa using c)] at h
    cases h
theorem it_rng {K : Kf} {S : Gh → MH → Hp → Prop} {a b : Int} : ItOk K S (Itr a (b - a).toNat) (rng a b) := fun g hm H rl s i => by
  refine ⟨fun m hm' => ?_, fun hi => ?_⟩
  · obtain ⟨h1, rfl⟩ := rng_get hm'
    refine ⟨h1, fun x H' y => ?_⟩
    obtain ⟨rfl, rfl⟩ := y
    exact ⟨g, .refl rl, .int _⟩
  · have e : (rng a b).length = (b - a).toNat := by unfold rng; simp
    rw [e] at hi
    exact hi
theorem it_rngD {K : Kf} {S : Gh → MH → Hp → Prop} {a b : Int} : ItOk K S (Itc a (-1) (a - b).toNat) (rngD a b) := fun g hm H rl s i => by
  refine ⟨fun m hm' => ?_, fun hi => ?_⟩
  · obtain ⟨h1, rfl⟩ := rngD_get hm'
    refine ⟨h1, fun x H' y => ?_⟩
    obtain ⟨rfl, rfl⟩ := y
    refine ⟨g, .refl rl, ?_⟩
    have e : a + (i : Nat) * (-1 : Int) = a - (i : Nat) := by omega
    rw [e]
    exact .int _
  · have e : (rngD a b).length = (a - b).toNat := by unfold rngD; simp
    rw [e] at hi
    exact hi
section
variable {K : Kf} {W : WX} {X : Cx} {tg a b c e e2 : Expr} {pos p : Pos}
theorem rd_itB {op : List MV → Option (List MV)} {fs : OM} {r : List V → Hp → (It → Hp → Prop) → Prop} (hr : ∀ g hm H xs vs ms (R : It → Hp → Prop), Rel K g hm H → RVs K g H xs vs → op xs = some ms → (∀ J, ItOk K (fun g' _ H' => Up g H g' H') J ms → R J H) → r vs H R)
    (σ : L2.St) (H : Hp) (R : It → Hp → Prop) (h : rdI K W (itB op fs) σ H R) : rdA K W fs σ H fun vs H1 => r vs H1 R := by
  obtain ⟨g, σm, hm, rl, Rn, p⟩ := h
  refine ⟨g, σm, hm, rl, Rn, (Post.bind rl p).mono fun xs g1 hm1 H1 e1 q vs rs => ?_⟩
  have q : Post K W g1 hm1 σ H1 (optR (op xs) hm1) fun ms g' _ H' => ∀ J, ItOk K (fun g _ H => Up g' H' g H) J ms → R J H' := q
  cases c : op xs with
  | none => rw [c] at q; exact q.elim
  | some ms =>
    rw [c] at q
    exact hr g1 hm1 H1 xs vs ms R e1.rel rs c (q g1 H1 (.refl e1.rel))
theorem RVs.i1 {g : Gh} {H : Hp} {i : Int} {vs : List V} (r : RVs K g H [.int i] vs) : vs = [.int i] := by
  cases r with
  | cons r rs => cases r; cases rs; rfl
theorem RVs.i2 {g : Gh} {H : Hp} {i j : Int} {vs : List V} (r : RVs K g H [.int i, .int j] vs) : vs = [.int i, .int j] := by
  cases r with
  | cons r rs => cases r; rw [rs.i1]
theorem RVs.i3 {g : Gh} {H : Hp} {i j k : Int} {vs : List V} (r : RVs K g H [.int i, .int j, .int k] vs) : vs = [.int i, .int j, .int k] := by
  cases r with
  | cons r rs => cases r; rw [rs.i2]
theorem si_rng1 {fs : OM} (n : NmB X "range" (.type "range")) (ha : PA X [a] (rdA X.K W fs)) (hs : starEach [a] X.env = [(false, eval a X.env)] := by rfl) : PI X tg (.Call (.Name "range" p) [a] [] pos) (rdI X.K W (itB rng1M fs)) :=
  imp_i (pi_range1 n.gl n.mg ha hs) (rd_itB fun g hm H xs vs ms R rl rs e k => by
    unfold rng1M at e
    split at e
    · split at e
      · rename_i b c
        cases e
        have c := sml_iff.mp c
        refine ⟨b, rs.i1, c.1, c.2, ?_⟩
        have z := k (Itr 0 (b - 0).toNat) it_rng
        rw [Int.sub_zero] at z
        exact z
      · cases e
    · cases e)
theorem si_rng2 {fs : OM} (n : NmB X "range" (.type "range")) (ha : PA X [a, b] (rdA X.K W fs)) (hs : starEach [a, b] X.env = [(false, eval a X.env), (false, eval b X.env)] := by rfl) (hs2 : starEach [b] X.env = [(false, eval b X.env)] := by rfl) :
    PI X tg (.Call (.Name "range" p) [a, b] [] pos) (rdI X.K W (itB rng2M fs)) :=
  imp_i (pi_range2 n.gl n.mg ha hs hs2) (rd_itB fun g hm H xs vs ms R rl rs e k => by
    unfold rng2M at e
    split at e
    · split at e
      · rename_i a b c
        cases e
        have c1 := sml_iff.mp c.1
        have c2 := sml_iff.mp c.2
        exact ⟨a, b, rs.i2, ⟨c1.1, c1.2, c2.1, c2.2⟩, k _ it_rng⟩
      · cases e
    · cases e)
theorem si_rng3 {fs : OM} (n : NmB X "range" (.type "range")) (ha : PA X [a, b, c] (rdA X.K W fs)) (hs : starEach [a, b, c] X.env = (false, eval a X.env) :: starEach [b, c] X.env := by rfl) (hpl : (backTo pos (starEach [b, c] X.env)).any (·.1) = false := by rfl) :
    PI X tg (.Call (.Name "range" p) [a, b, c] [] pos) (rdI X.K W (itB rng3M fs)) :=
  imp_i (pi_range3 n.gl n.mg ha hs hpl) (rd_itB fun g hm H xs vs ms R rl rs e k => by
    unfold rng3M at e
    split at e
    · split at e
      · rename_i a b d c
        cases e
        obtain ⟨c1, c2, rfl⟩ := c
        have c1 := sml_iff.mp c1
        have c2 := sml_iff.mp c2
        exact ⟨a, b, -1, _, rs.i3, RgC.neg c1.1 c1.2 c2.1 c2.2, k _ it_rngD⟩
      · cases e
    · cases e)
/-! zip of two lists, of two tuples -/
def zipL : List MV → List MV → List MV
  | x :: xs, y :: ys => .tup [x, y] :: zipL xs ys
  | _, _ => []
def zipM (xs : List MV) : Option (List MV) := match xs with
  | [.lst x, .lst y] => some (zipL x y)
  | [.tup x, .tup y] => some (zipL x y)
  | _ => none
theorem zipL_get : ∀ {xs ys : List MV} {i : Nat} {m : MV}, (zipL xs ys)[i]? = some m → ∃ x y, xs[i]? = some x ∧ ys[i]? = some y ∧ m = .tup [x, y]
  | x :: xs, y :: ys, 0, m, h => by
    cases h
    exact ⟨x, y, rfl, rfl, rfl⟩
  | x :: xs, y :: ys, i + 1, m, h => by
    obtain ⟨a, b, h1, h2, h3⟩ := zipL_get (xs := xs) (ys := ys) (i := i) h
    exact ⟨a, b, h1, h2, h3⟩
  | [], _, i, m, h => by simp [zipL] at h
  | _ :: _, [], i, m, h => by simp [zipL] at h
theorem zipL_length : ∀ (xs ys : List MV), (zipL xs ys).length = min xs.length ys.length
  | x :: xs, y :: ys => by unfold zipL; rw [List.length_cons, zipL_length xs ys, List.length_cons, List.length_cons]; omega
  | [], _ => by simp [zipL]
  | _ :: _, [] => by simp [zipL]
theorem si_zip {elts : List Expr} {kk : Nat} {tpos : Pos} {fs : OM} (n : NmB X "zip" (.type "zip")) (ha : PA X [e, e2] (rdA X.K W fs)) (hs : starEach [e, e2] X.env = (false, eval e X.env) :: starEach [e2] X.env := by rfl) (hpl : (backTo pos (starEach [e2] X.env)).any (·.1) = false := by rfl) :
    PI X (.Tuple elts kk tpos) (.Call (.Name "zip" p) [e, e2] [] pos) (rdI X.K W (itB zipM fs)) :=
  imp_i (RZ.pi_zipA n.gl n.mg ha hs hpl) (rd_itB fun g hm H xs vs ms R rl rs e k => by
    unfold zipM at e
    split at e
    · rename_i x y
      cases e
      cases rs with
      | cons r1 rs => cases rs with
        | cons r2 rs =>
          cases rs
          cases r1 with
          | @lst a v1 _ f1 h1 z1 q1 =>
            cases r2 with
            | @lst b v2 _ f2 h2 z2 q2 =>
              refine ⟨a, b, v1, v2, rfl, .inl ⟨SqL.of h1, SqL.of h2, k _ fun g2 hm2 H2 rl2 u i => ⟨fun m hm' => ?_, fun hi => ?_⟩⟩⟩
              · obtain ⟨m1, m2, e1, e2, rfl⟩ := zipL_get hm'
                have l1 := SqL.of (K := X.K) (u.hp _ _ f1 h1)
                have l2 := SqL.of (K := X.K) (u.hp _ _ f2 h2)
                obtain ⟨w1, t1, s1⟩ := q1.get e1
                obtain ⟨w2, t2, s2⟩ := q2.get e2
                refine ⟨⟨v1, v2, w1, w2, l1, l2, t1, t2⟩, fun x H' y => ?_⟩
                obtain ⟨T, p1, p2, rfl, hT, rfl, y1, y2⟩ := y
                have d1 := y1 _ l1
                have d2 := y2 _ l2
                rw [t1] at d1
                rw [t2] at d2
                cases d1
                cases d2
                have ex := Ext.fz (o := .tup [w1, w2]) rl2 hT
                exact ⟨_, ex, .tup (.inr rfl) upd_same (by rw [zl_eq]; show 2 ≤ zl; decide) (.cons ((s1.up u).up (ex.up rl2)) (.cons ((s2.up u).up (ex.up rl2)) .nil))⟩
              · rw [zipL_length] at hi
                refine ⟨v1, v2, SqL.of (u.hp _ _ f1 h1), SqL.of (u.hp _ _ f2 h2), ?_⟩
                rw [← q1.length, ← q2.length]
                omega
    · rename_i x y
      cases e
      cases rs with
      | cons r1 rs => cases rs with
        | cons r2 rs =>
          cases rs
          obtain ⟨h', a, v1, rfl, h1, q1, st1⟩ := rv_tup r1 (ms := x) (h := hm) rfl
          obtain ⟨h'', b, v2, rfl, h2, q2, st2⟩ := rv_tup r2 (ms := y) (h := hm) rfl
          refine ⟨a, b, v1, v2, rfl, .inr ⟨h1, h2, k _ fun g2 hm2 H2 rl2 u i => ⟨fun m hm' => ?_, fun hi => ?_⟩⟩⟩
          · obtain ⟨m1, m2, e1, e2, rfl⟩ := zipL_get hm'
            have l1 := st1 _ _ u
            have l2 := st2 _ _ u
            obtain ⟨w1, t1, s1⟩ := q1.get e1
            obtain ⟨w2, t2, s2⟩ := q2.get e2
            refine ⟨⟨v1, v2, w1, w2, l1, l2, t1, t2⟩, fun x H' y => ?_⟩
            obtain ⟨T, p1, p2, rfl, hT, rfl, y1, y2⟩ := y
            have d1 := y1 _ l1
            have d2 := y2 _ l2
            rw [t1] at d1
            rw [t2] at d2
            cases d1
            cases d2
            have ex := Ext.fz (o := .tup [w1, w2]) rl2 hT
            exact ⟨_, ex, .tup (.inr rfl) upd_same (by rw [zl_eq]; show 2 ≤ zl; decide) (.cons ((s1.up u).up (ex.up rl2)) (.cons ((s2.up u).up (ex.up rl2)) .nil))⟩
          · rw [zipL_length] at hi
            refine ⟨v1, v2, st1 _ _ u, st2 _ _ u, ?_⟩
            rw [← q1.length, ← q2.length]
            omega
    · cases e)
/-- list(range(a, b)) -/
def lrgO (op : List MV → Option (List MV)) (fs : OM) : OM := bindE fs fun xs => fun _ h => match op xs with
  | some ms => if ms.length ≤ zl then .ok ms h else .no
  | none => .no
theorem so_lrg1 {p2 pos2 : Pos} {fa : EM} (hc : X.calm = true) (n : NmB X "range" (.type "range")) (n2 : NmB X "list" (.type "list")) (ha : PE X a (rdE X.K W fa)) (na : starEach [a] X.env = (false, eval a X.env) :: starEach [] X.env := by rfl) :
    PE X (.Call (.Name "list" p2) [.Call (.Name "range" p) [a] [] pos] [] pos2) (rdO X.K W (lrgO rng1M (consA fa nilA))) :=
  imp_e (pe_listRg hc n2.gl n2.mg (prg_1 n.gl n.mg ha na)) fun σ H Q h => by
    obtain ⟨g, σm, hm, rl, Rn, p⟩ := h
    refine ⟨g, σm, hm, rl, Rn, (Post.bind rl (Post.bind rl p)).mono fun x g1 hm1 H1 e1 q v rv => ?_⟩
    have q : Post X.K W g1 hm1 σ H1 (match rng1M [x] with
      | some ms => if ms.length ≤ zl then .ok ms hm1 else .no
      | none => .no) _ := q g1 H1 (.refl e1.rel)
    cases x with
    | int b =>
      cases rv
      refine ⟨b, rfl, ?_⟩
      unfold rng1M at q
      dsimp only at q
      by_cases c : sml b = true
      · rw [if_pos c] at q
        dsimp only at q
        by_cases c2 : (rng 0 b).length ≤ zl
        · rw [if_pos c2] at q
          have c := sml_iff.mp c
          have hl : (rng 0 b).length = (b - 0).toNat := by unfold rng; simp
          refine ⟨⟨by decide, by decide, c.1, c.2, by rw [← hl]; exact c2⟩, fun p hp => ?_⟩
          have rvs : RVs X.K g1 H1 (rng 0 b) (rgV 0 b) := by
            unfold rng rgV
            have e : ∀ l : List Nat, RVs X.K g1 H1 (l.map fun i => MV.int (0 + (i : Nat))) (l.map fun i => V.int (0 + (i : Nat))) := by
              intro l
              induction l with
              | nil => exact .nil
              | cons z zs ih => exact .cons (.int _) ih
            exact e _
          exact new_lst e1.rel (ms := rng 0 b) rvs (by rw [zl_eq]; exact c2) (fun g' H' a ws ex h0 h1 z rv nf nl => q g' H' ex a ws (e1.free h0) h1 z rv nf nl) hp
        · rw [if_neg c2] at q; exact q.elim
      · rw [if_neg c] at q; exact q.elim
    | _ => exact False.elim q
end
end Mi
end P_M10
section P_M11
set_option Elab.async false
set_option linter.all false
set_option maxRecDepth 100000
set_option maxHeartbeats 4000000
set_option exponentiation.threshold 10000
/-! M11: changes in place, new objects of the small heap, dicts -/
namespace Mi
open PySem PySem.Spec PyProof.Rows L2 TL

/-! ### a slot's own list changes -/
def mutS (i : Nat) (op : List MV → List MV → Option (List MV)) (fs : OM) : SM := fun σ h => match σ[i]? with
  | some (.own _) => bindS fs (fun xs σ h => match σ[i]? with
    | some (.own ys) => (match op ys xs with
      | some zs => .nx (σ.set i (.own zs)) h
      | none => .no)
    | _ => .no) σ h
  | _ => .no
def VMu (K : Kf) (r : V → List V → Hp → VK → Prop) (op : List MV → List MV → Option (List MV)) : Prop := ∀ (g : Gh) (H : Hp) (a : Addr) (ys xs zs : List MV) (ws vs : List V), H a = some (.lst ws) → RVs K g H ys ws → RVs K g H xs vs → ys.length ≤ sizeLine →
  op ys xs = some zs → ∃ ws', RVs K g H zs ws' ∧ zs.length ≤ sizeLine ∧ ∀ Q : VK, Q .non (upd H a (.lst ws')) → r (.ref a) vs H Q
def appendM (ys xs : List MV) : Option (List MV) := match xs with
  | [x] => if ys.length < zl then some (ys ++ [x]) else none
  | _ => none
def insertM (ys xs : List MV) : Option (List MV) := match xs with
  | [.int i, x] => if ys.length < zl ∧ 0 ≤ i ∧ i < 2 ^ 63 then some (ys.take i.toNat ++ [x] ++ ys.drop i.toNat) else none
  | _ => none
def extendM (ys xs : List MV) : Option (List MV) := match xs with
  | [.lst x] => if ys.length + x.length ≤ zl then some (ys ++ x) else none
  | _ => none
section
variable {K : Kf}
theorem vm_append : VMu K rAppend appendM := by
  intro g H a ys xs zs ws vs h rs rx z e
  unfold appendM at e
  split at e
  · split at e
    · rename_i x c
      cases e
      cases rx with
      | cons r rx =>
        cases rx
        exact ⟨_, rs.append (.cons r .nil), by rw [List.length_append, List.length_singleton, zl_eq]; omega, fun Q q => ⟨a, ws, _, rfl, rfl, h, by rw [← rs.length, zl_eq]; exact c, q⟩⟩
    · cases e
  · cases e
abbrev rInsert : V → List V → Hp → VK → Prop := fun x vs H Q => ∃ (l : Addr) (xs : List V) (i : Int) (y : V), x = .ref l ∧ vs = [.int i, y] ∧ H l = some (.lst xs) ∧ xs.length < sizeLine ∧ 0 ≤ i ∧ i < 2 ^ 63 ∧
    Q .non (upd H l (.lst (xs.take i.toNat ++ [y] ++ xs.drop i.toNat)))
theorem vm_insert : VMu K rInsert insertM := by
  intro g H a ys xs zs ws vs h rs rx z e
  unfold insertM at e
  split at e
  · split at e
    · rename_i i x c
      cases e
      cases rx with
      | cons r1 rx => cases rx with
        | cons r rx =>
          cases rx
          cases r1
          refine ⟨_, ((rs.take i.toNat).append (.cons r .nil)).append (rs.drop i.toNat), ?_, fun Q q => ⟨a, ws, i, _, rfl, rfl, h, by rw [← rs.length, zl_eq]; exact c.1, c.2.1, c.2.2, q⟩⟩
          have := c.1
          rw [List.length_append, List.length_append, List.length_singleton, List.length_take, List.length_drop, zl_eq]
          omega
    · cases e
  · cases e
theorem vm_extend : VMu K rExtend extendM := by
  intro g H a ys xs zs ws vs h rs rx z e
  unfold extendM at e
  split at e
  · split at e
    · rename_i x c
      cases e
      cases rx with
      | cons r rx =>
        cases rx
        cases r with
        | @lst b v1 _ f1 h1 z1 q1 =>
          exact ⟨_, rs.append q1, by rw [List.length_append, zl_eq]; exact c, fun Q q => ⟨a, b, ws, v1, rfl, rfl, h, h1, by rw [← rs.length, ← q1.length, zl_eq]; exact c, q⟩⟩
    · cases e
  · cases e
theorem rd_mut {W : WX} {i : Nat} {op : List MV → List MV → Option (List MV)} {fs : OM} {r : V → List V → Hp → VK → Prop} (hv : VMu K r op) (D : Ends) (σ : L2.St) (H : Hp) (h : rdS K W (mutS i op fs) D σ H) :
    tBM K "list" r (tVar i) (rdA K W fs) σ H fun _ H' => D.nx σ H' := by
  obtain ⟨B, g, hm, σm, s, p⟩ := h
  unfold mutS at p
  cases c : σm[i]? with
  | none => rw [c] at p; exact p.elim
  | some t =>
    cases t with
    | un => rw [c] at p; exact p.elim
    | val m => rw [c] at p; exact p.elim
    | own y0 =>
      rw [c] at p
      obtain ⟨a, vs, h1, z, h2, h3, nf, nl⟩ := s.en.own c
      refine ⟨_, h1, .inl ⟨rfl, vs, SqL.of h2⟩, g, σm, hm, s.rel, s.en, Post.toE (k := fun xs h => match σm[i]? with
        | some (.own ys) => (match op ys xs with
          | some zs => .nx (σm.set i (.own zs)) h
          | none => .no)
        | _ => .no) s _ rfl p fun xs g1 hm1 H1 e1 k vs1 rv => ?_⟩
      simp only [c] at k
      have s1 := s.ext e1
      obtain ⟨a', vs', h1', z', h2', h3', nf', nl'⟩ := s1.en.own c
      rw [h1] at h1'
      cases h1'
      cases e : op y0 xs with
      | none => rw [e] at k; exact k.elim
      | some zs =>
        rw [e] at k
        obtain ⟨ws', q1, q2, q3⟩ := hv g1 H1 a y0 xs zs vs' vs1 h2' h3' rv z' e
        exact q3 _ (k g1 _ σ (s1.mut_own c h1 h2' nf' nl' q2 q1))
end
section
variable {K : Kf} {W : WX} {X : Cx} {e : Expr} {es : List Expr} {pos apos cpos p : Pos} {x : Str} {i : Nat}
theorem ss_mut {name : Str} {id : String} {op : List MV → List MV → Option (List MV)} {fs : OM} {r : V → List V → Hp → VK → Prop} (slot : Slot "list" name id) (hty : typeOf (.builtin id) = pure (.type "method_descriptor")) (hmt : MtR X id r) (hv : VMu X.K r op)
    (hN : PE X (.Name x p) (tVar i)) (ha : PA X (e :: es) (rdA X.K W fs))
    (hs2 : swapsWith (.Call (.Attribute (.Name x p) name apos) (e :: es) [] cpos) none pos.line X.env = pure false := by rfl)
    (hbase : attributeBase (.Name x p) name X.env (eval (.Name x p) X.env) = eval (.Name x p) X.env := by rfl)
    (hfew : ((backTo cpos (starEach (e :: es) X.env)).all (fun x => !x.1) && (backToKw cpos (keywordEach [] X.env)).all (fun x => x.1.isSome)
      && decide ((e :: es).length + ([] : List Keyword).length + (if ([] : List Keyword).isEmpty then 0 else 1) < 30)) = true := by rfl)
    (hline : (apos.endLine == cpos.line) = true := by rfl) (hs : starEach (e :: es) X.env = (false, eval e X.env) :: starEach es X.env := by rfl) (hplain : (backTo cpos (starEach es X.env)).any (·.1) = false := by rfl) :
    PS X (.Expr (.Call (.Attribute (.Name x p) name apos) (e :: es) [] cpos) pos) (rdS X.K W (mutS i op fs)) :=
  imp_s (ps_expr (pe_bm PySem.F.plainAttrs_list slot hty hmt hN ha hbase hfew hline hs hplain) hs2) (rd_mut hv)
end

/-! ### objects of the small heap -/
def MH.put (h : MH) (n : Nat) (o : MO) : MH := { h with get := fun k => if k = n then some o else h.get k }
def MH.push (h : MH) (o : MO) : MH := { nx := h.nx + 1, get := fun k => if k = h.nx then some o else h.get k }
def Gh.push (g : Gh) (a : Addr) : Gh := { g with N := g.N + 1, ρ := fun k => if k = g.N then a else g.ρ k }
section
variable {K : Kf} {g g' : Gh} {hm hm' : MH} {H H' : Hp} {a : Addr}
theorem Ext.put (rl : Rel K g hm H) {n : Nat} {o : MO} {vs ws : List V} {ys : List MV} (c : hm.get n = some o) (h : H (g.ρ n) = some (.lst vs)) (rs : RVs K g H ys ws) (z : ys.length ≤ sizeLine) : Ext K g hm H g (hm.put n (.lst ys)) (upd H (g.ρ n) (.lst ws)) := by
  have hn : hm.get n ≠ none := by rw [c]; exact fun z => nomatch z
  have old : ∀ k, (hm.put n (.lst ys)).get k ≠ none → hm.get k ≠ none := fun k q => by
    by_cases e : k = n
    · rw [e]; exact hn
    · have q : (if k = n then some (MO.lst ys) else hm.get k) ≠ none := q
      rw [if_neg e] at q
      exact q
  have nf := rl.nf n hn
  have u : Up g H g (upd H (g.ρ n) (.lst ws)) := Up.wr nf
  have rel : Rel K g (hm.put n (.lst ys)) (upd H (g.ρ n) (.lst ws)) := by
    refine ⟨rl.nx, fun k q => rl.lt k (old k q), fun k m q1 q2 => rl.inj k m (old k q1) (old m q2), fun k q => rl.nf k (old k q), fun k o' q => ?_, fun b f => ?_⟩
    · have q : (if k = n then some (MO.lst ys) else hm.get k) = some o' := q
      by_cases e : k = n
      · rw [if_pos e] at q
        cases q
        subst e
        exact ⟨z, ws, upd_same, rs.up u⟩
      · rw [if_neg e] at q
        refine RO.up u (fun w q2 => ?_) (rl.ob k o' q)
        rw [upd_ne (fun z => e (rl.inj k n (by rw [q]; exact fun z => nomatch z) hn z))]
        exact q2
    · rw [upd_ne (fun z => nf (by rw [← z]; exact f))]
      exact rl.fs b f
  refine ⟨Nat.le_refl _, fun _ _ => rfl, fun _ f => f, fun _ f => .inl f, fun b w q l => ?_, fun b q => ?_, fun k h1 h2 => absurd (Nat.lt_of_lt_of_le h2 h1) (Nat.lt_irrefl _), fun k _ q => old k q, rel⟩
  · rw [upd_ne (fun z => l ⟨n, hn, z.symm⟩)]; exact q
  · by_cases c2 : b = g.ρ n
    · rw [c2, upd_same]; intro z; cases z
    · rw [upd_ne c2]; exact q
/-- a new list becomes an object of the small heap -/
theorem Ext.push (rl : Rel K g hm H) (e : Ext K g hm H g' hm' H') {vs : List V} {xs : List MV} (h0 : H a = none) (h1 : H' a = some (.lst vs)) (z : xs.length ≤ sizeLine) (rs : RVs K g' H' xs vs) (nf : ¬ g'.F a) (nl : ¬ Live g' hm' a) :
    Ext K g hm H (g'.push a) (hm'.push (.lst xs)) H' ∧ RV K (g'.push a) H' (.ref hm'.nx) (.ref a) := by
  have nx := e.rel.nx
  have ne : hm'.get hm'.nx = none := by
    cases c : hm'.get hm'.nx with
    | none => rfl
    | some o => exact absurd (e.rel.lt _ (by rw [c]; exact fun z => nomatch z)) (Nat.lt_irrefl _)
  have rho : ∀ k, k < g'.N → (g'.push a).ρ k = g'.ρ k := fun k hk => by
    show (if k = g'.N then a else g'.ρ k) = _
    rw [if_neg (by omega)]
  have rhoN : (g'.push a).ρ hm'.nx = a := by
    show (if hm'.nx = g'.N then a else g'.ρ hm'.nx) = _
    rw [if_pos nx.symm]
  have u : Up g' H' (g'.push a) H' := ⟨Nat.le_succ _, rho, fun _ f => f, fun _ _ _ q => q⟩
  have gt : ∀ k o, (hm'.push (.lst xs)).get k = some o → (k = hm'.nx ∧ o = .lst xs) ∨ (k ≠ hm'.nx ∧ hm'.get k = some o) := fun k o q => by
    have q : (if k = hm'.nx then some (MO.lst xs) else hm'.get k) = some o := q
    by_cases c : k = hm'.nx
    · rw [if_pos c] at q
      cases q
      exact .inl ⟨c, rfl⟩
    · rw [if_neg c] at q
      exact .inr ⟨c, q⟩
  have gn : ∀ k, (hm'.push (.lst xs)).get k ≠ none → (k = hm'.nx ∧ (g'.push a).ρ k = a) ∨ (k < g'.N ∧ hm'.get k ≠ none ∧ (g'.push a).ρ k = g'.ρ k) := fun k q => by
    cases c : (hm'.push (.lst xs)).get k with
    | none => exact absurd c q
    | some o =>
      rcases gt k o c with ⟨h1, _⟩ | ⟨h1, h2⟩
      · exact .inl ⟨h1, by rw [h1]; exact rhoN⟩
      · have hk : hm'.get k ≠ none := by rw [h2]; exact fun z => nomatch z
        have lt := e.rel.lt k hk
        rw [← nx] at lt
        exact .inr ⟨lt, hk, rho k lt⟩
  have rel : Rel K (g'.push a) (hm'.push (.lst xs)) H' := by
    refine ⟨by show g'.N + 1 = hm'.nx + 1; rw [nx], fun k q => ?_, fun k m q1 q2 eq => ?_, fun k q f => ?_, fun k o q => ?_, fun b f => e.rel.fs b f⟩
    · show k < hm'.nx + 1
      rcases gn k q with ⟨h, _⟩ | ⟨h, _⟩
      · omega
      · omega
    · rcases gn k q1 with ⟨e1, r1⟩ | ⟨l1, e1, r1⟩
      · rcases gn m q2 with ⟨e2, r2⟩ | ⟨l2, e2, r2⟩
        · rw [e1, e2]
        · rw [r1, r2] at eq
          exact absurd ⟨m, e2, eq.symm⟩ nl
      · rcases gn m q2 with ⟨e2, r2⟩ | ⟨l2, e2, r2⟩
        · rw [r1, r2] at eq
          exact absurd ⟨k, e1, eq⟩ nl
        · rw [r1, r2] at eq
          exact e.rel.inj k m e1 e2 eq
    · rcases gn k q with ⟨e1, r1⟩ | ⟨l1, e1, r1⟩
      · rw [r1] at f
        exact nf f
      · rw [r1] at f
        exact e.rel.nf k e1 f
    · rcases gt k o q with ⟨e1, rfl⟩ | ⟨e1, e2⟩
      · rw [e1, rhoN]
        exact ⟨z, vs, h1, rs.up u⟩
      · have hk : hm'.get k ≠ none := by rw [e2]; exact fun z => nomatch z
        have lt := e.rel.lt k hk
        rw [← nx] at lt
        rw [rho k lt]
        exact RO.up u (fun _ q => q) (e.rel.ob k o e2)
  refine ⟨⟨Nat.le_trans e.n (Nat.le_succ _), fun k hk => (rho k (Nat.lt_of_lt_of_le hk e.n)).trans (e.rho k hk), e.f1, e.f2, e.keep, e.stay, fun k h1 h2 => ?_, fun k hk q => ?_, rel⟩, ?_⟩
  · by_cases c : k < g'.N
    · rw [rho k c]; exact e.fresh k h1 c
    · have ek : k = hm'.nx := by
        have h2 : k < g'.N + 1 := h2
        omega
      rw [ek, rhoN]; exact h0
  · rcases gn k q with ⟨e1, _⟩ | ⟨_, e1, _⟩
    · have := e.n
      omega
    · exact e.live k hk e1
  · have z : RV K (g'.push a) H' (.ref hm'.nx) (.ref ((g'.push a).ρ hm'.nx)) := .ref _ (by show hm'.nx < g'.N + 1; omega)
    rw [rhoN] at z
    exact z
end
/-- a new list, as an object that may change -/
def newE (f : OM) : EM := bindE f fun xs _ h => .ok (.ref h.nx) (h.push (.lst xs))
section
variable {K : Kf} {W : WX} {X : Cx} {e o ie : Expr} {pos p tpos : Pos}
theorem se_new {f : OM} (h : PE X e (rdO X.K W f)) : PE X e (rdE X.K W (newE f)) := imp_e h fun σ H Q q => by
  obtain ⟨g, σm, hm, r, R, p⟩ := q
  refine ⟨g, σm, hm, r, R, ?_⟩
  unfold newE bindE at p
  cases c : f σm hm with
  | ok xs h' =>
    rw [c] at p
    intro g' H' e a vs h0 h1 z rv nf nl
    obtain ⟨e2, rv2⟩ := Ext.push r e h0 h1 z rv nf nl
    exact p _ H' e2 _ rv2
  | ex c m h' =>
    rw [c] at p
    exact p
  | no =>
    rw [c] at p
    exact p
/-- o[i] = e, o an object of the small heap -/
def setIxS (fe fo fi : EM) : SM := bindS (bindE fe fun v => bindE fo fun x => bindE fi fun y => fun _ h => match x, y with
  | .ref n, .int k => (match h.get n with
    | some (.lst xs) => (match ixN xs.length k with
      | some j => .ok () (h.put n (.lst (xs.set j v)))
      | none => .no)
    | none => .no)
  | _, _ => .no) fun _ σ h => .nx σ h
theorem rd_setIx {fe fo fi : EM} (D : Ends) (σ : L2.St) (H : Hp) (h : rdS K W (setIxS fe fo fi) D σ H) : tAsg (rdE K W fe) (gSub (rdE K W fo) (rdE K W fi) rSetL) D σ H := by
  obtain ⟨B, g, hm, σm, s, p⟩ := h
  have p := Post.toE (W := W) (P := fun (_ : Unit) g' hm' H' => D.nx σ H') (k := fun _ h => .nx σm h) s _ rfl p fun _ g' hm' H' e k => k g' H' σ (s.ext e)
  refine ⟨g, σm, hm, s.rel, s.en, (Post.bind s.rel p).mono fun v g1 hm1 H1 e1 p1 vv rv => ?_⟩
  refine ⟨g1, σm, hm1, e1.rel, s.en.ext s.rel e1, (Post.bind e1.rel p1).mono fun x g2 hm2 H2 e2 p2 vx rx => ?_⟩
  refine ⟨g2, σm, hm2, e2.rel, (s.en.ext s.rel e1).ext e1.rel e2, (Post.bind e2.rel p2).mono fun y g3 hm3 H3 e3 p3 vy ry => ?_⟩
  have rv := (rv.up (e2.up e1.rel)).up (e3.up e2.rel)
  have rx := rx.up (e3.up e2.rel)
  cases x with
  | ref n =>
    cases y with
    | int k =>
      have p3 : Post K W g3 hm3 σ H3 (match hm3.get n with
        | some (.lst xs) => (match ixN xs.length k with
          | some j => .ok () (hm3.put n (.lst (xs.set j v)))
          | none => .no)
        | none => .no) fun _ g' hm' H' => D.nx σ H' := p3
      cases c : hm3.get n with
      | none => simp only [c] at p3; exact p3.elim
      | some o =>
        cases o with
        | lst xs =>
          simp only [c] at p3
          cases c2 : ixN xs.length k with
          | none => simp only [c2] at p3; exact p3.elim
          | some j =>
            simp only [c2] at p3
            obtain ⟨z, vs, h1, rs⟩ := e3.rel.ob n _ c
            cases rx
            cases ry
            refine ⟨_, vs, k, j, rfl, rfl, h1, by rw [← rs.length]; exact c2, ?_⟩
            exact p3 g3 _ (Ext.put e3.rel c h1 (rs.set rv j) (by rw [List.length_set]; exact z))
    | _ => exact False.elim p3
  | _ => exact False.elim p3
theorem ss_setIx {fe fo fi : EM} (he : PE X e (rdE X.K W fe)) (ho : PE X o (rdE X.K W fo)) (hi : PE X ie (rdE X.K W fi))
    (ha : ∀ v, assign (.Subscript o ie tpos) X.env v = (do
      let ov ← holding [v] (eval o X.env)
      let iv ← holding [v, ov] (eval ie X.env)
      standAt tpos
      holding [v, ov, iv] (setItem ov iv v)
      release [v, ov, iv] []) := by intro _; rfl)
    (hs : swapsWithSole [.Subscript o ie tpos] e pos.line X.env = pure false := by rfl) (hw : swappedStores [.Subscript o ie tpos] e X.env = pure none := by rfl)
    (h1 : (assignEach [.Subscript o ie tpos] X.env).map (·.2) = [assign (.Subscript o ie tpos) X.env] := by rfl) : PS X (.Assign [.Subscript o ie tpos] e pos) (rdS X.K W (setIxS fe fo fi)) :=
  imp_s (ps_asg he (pg_sub ho hi set_list ha) hs hw h1) rd_setIx
end
end Mi
end P_M11
section P_M12
set_option Elab.async false
set_option linter.all false
set_option maxRecDepth 100000
set_option maxHeartbeats 4000000
/-! M12: the context of a def's text: names by checks; the module's facts; a def by its body -/
namespace Mi
open PySem PySem.Spec PyProof.Rows L2

/-! ### the context -/
structure Cn (X : Cx) (P : Program) (w : World) (K : Kf) (mg : Str → Option Value) (base : Heap) (N : List Str) (sc : Scope) (own : Str → Bool) (k : Nat) : Prop where
  ep : X.prog = P
  ew : X.w = w
  eK : X.K = K
  em : X.mg = mg
  eb : X.base = base
  eN : X.N = N
  es : X.env.scope = sc
  calm : X.calm = true
  fn : ∀ x, own x = true → X.fn x = true
  room : Room k X.A
  nd : N.Nodup
structure NmV (X : Cx) (x : Str) (i : Nat) : Prop where
  ix : X.N[i]? = some x
  vis : Vis X.env.scope x
  d1 : (x == ("__debug__" : Str)) = false
  d2 : (x == ("__classdict__" : Str)) = false
structure NmG (X : Cx) (x : Str) : Prop where
  gl : Gl X x
  db : (x == ("__debug__" : Str)) = false
structure NmA (X : Cx) (x : Str) (i : Nat) : Prop where
  nd : X.N.Nodup
  ix : X.N[i]? = some x
  loc : Loc X.env.scope x
  fn : X.fn x = true ∨ X.env.scope.names.lookup x = some .local
def chkV (N : List Str) (sc : Scope) (x : Str) (i : Nat) : Bool := decide (N[i]? = some x) && (decide (sc.names.lookup x = some .local) || (decide (sc.names.lookup x = some .cell) || decide (sc.names.lookup x = some .free))) && !(x == ("__debug__" : Str)) && !(x == ("__classdict__" : Str))
def chkG (sc : Scope) (x : Str) : Bool := decide (sc.names.lookup x = some .globalImplicit) && !(x == ("__debug__" : Str))
def chkA (N : List Str) (sc : Scope) (own : Str → Bool) (x : Str) (i : Nat) : Bool := decide (N[i]? = some x) && (decide (sc.names.lookup x = some .local) || (decide (sc.names.lookup x = some .cell) && own x))
def chkB (sc : Scope) (x : Str) : Bool := chkG sc x && !decide (x = ("__name__" : Str))
section
variable {X : Cx} {P : Program} {w : World} {K : Kf} {mg : Str → Option Value} {base : Heap} {N : List Str} {sc : Scope} {own : Str → Bool} {k i : Nat} {x : Str}
theorem Cn.v (J : Cn X P w K mg base N sc own k) (h : chkV N sc x i = true) : NmV X x i := by
  unfold chkV at h
  simp only [Bool.and_eq_true, Bool.or_eq_true, decide_eq_true_eq, Bool.not_eq_true'] at h
  obtain ⟨⟨⟨h1, h2⟩, h3⟩, h4⟩ := h
  refine ⟨by rw [J.eN]; exact h1, ?_, h3, h4⟩
  unfold Vis
  rw [J.es]
  exact h2
theorem Cn.g (J : Cn X P w K mg base N sc own k) (h : chkG sc x = true) : NmG X x := by
  unfold chkG at h
  simp only [Bool.and_eq_true, decide_eq_true_eq, Bool.not_eq_true'] at h
  refine ⟨?_, h.2⟩
  show X.env.scope.names.lookup x = _
  rw [J.es]
  exact h.1
theorem Cn.a (J : Cn X P w K mg base N sc own k) (h : chkA N sc own x i = true) : NmA X x i := by
  unfold chkA at h
  simp only [Bool.and_eq_true, Bool.or_eq_true, decide_eq_true_eq] at h
  obtain ⟨h1, h2⟩ := h
  refine ⟨by rw [J.eN]; exact J.nd, by rw [J.eN]; exact h1, ?_, ?_⟩
  · unfold L2.Loc
    rw [J.es]
    rcases h2 with h | h
    · exact .inl h
    · exact .inr h.1
  · rw [J.es]
    rcases h2 with h | h
    · exact .inr h
    · exact .inl (J.fn x h.2)
theorem Cn.b {u : Value} (J : Cn X P w K mg base N sc own k) (hm : mg x = none) (hb : bootBuiltins x = some u) (h : chkB sc x = true) : NmB X x u := by
  unfold chkB at h
  simp only [Bool.and_eq_true, Bool.not_eq_true', decide_eq_false_iff_not] at h
  have g := J.g h.1
  exact ⟨g.gl, by rw [J.em]; exact hm, hb, h.2, g.db⟩
theorem Cn.f {id : String} (J : Cn X P w K mg base N sc own k) (hm : mg x = some (.builtin id)) (h : chkG sc x = true) : NmF X x id := ⟨(J.g h).gl, by rw [J.em]; exact hm, (J.g h).db⟩
theorem Cn.blk (J : Cn X P w K mg base N sc own k) (s : Shared) (H : Hp) (scope : Scope) (C : Addr) (cl : List (Str × Addr)) (fp : List Addr) :
    Cn (X.blk s H scope (compEnvC scope cl C X.env) fp) P w K mg base N (relS scope sc) (fun x => scope.names.lookup x == some .cell) k where
  ep := J.ep
  ew := J.ew
  eK := J.eK
  em := J.em
  eb := J.eb
  eN := J.eN
  es := by rw [← J.es] <;> rfl
  calm := J.calm
  fn := fun x hx => hx
  room := J.room
  nd := J.nd
theorem Cn.nodup (J : Cn X P w K mg base N sc own k) : X.N.Nodup := by rw [J.eN]; exact J.nd
theorem Cn.units (J : Cn X P w K mg base N sc own k) : X.A.units + 65 < cLine := by have := J.room.un; omega
theorem Cn.blkOk {scope : Scope} {vs : List (Str × Nat)} (J : Cn X P w K mg base N sc own k) (h : blkC N sc scope vs = true) : BlkOk X.N X.env.scope scope vs := by
  rw [J.eN, J.es]
  exact blkOk_by h
theorem Cn.fns {j n : Nat} {dms : List MV} {F : List MV → MH → Res MV} (J : Cn X P w K mg base N sc own k) (G : FnS P w K mg base j x n dms F) : FnS X.prog X.w X.K X.mg X.base j x n dms F := by
  rw [J.ep, J.ew, J.eK, J.em, J.eb]
  exact G
theorem takes_no : Takes X WNo := fun u s' ⟨_, _, _, _, _, _, _, _, _, _, _, _, _, _, _, _, z⟩ => z.elim
end
section
variable {X : Cx} {P : Program} {w : World} {K : Kf} {mg : Str → Option Value} {base : Heap} {N : List Str} {sc : Scope} {own : Str → Bool} {k i : Nat} {x : Str} {W : WX} {pos p : Pos} {e : Expr} {es : List Expr}
/-! ### the rules that ask for names -/
theorem NmV.var (n : NmV X x i) : PE X (.Name x pos) (rdE X.K W (varE i)) := imp_e (pe_var n.ix n.vis n.d1 n.d2) rd_var
theorem NmV.peek (n : NmV X x i) : PE X (.Name x pos) (rdP X.K W (peekE i)) := imp_e (pe_var n.ix n.vis n.d1 n.d2) rd_peek
theorem NmV.raw (n : NmV X x i) : PE X (.Name x pos) (tVar i) := pe_var n.ix n.vis n.d1 n.d2
theorem NmA.tg (n : NmA X x i) : PG X (.Name x pos) (rdG X.K (nameT i) [i]) := sg_name n.nd n.ix n.loc n.fn
theorem NmA.set {f : EM} {pos' : Pos} (n : NmA X x i) (he : PE X e (rdE X.K W f)) (hs : swapsWith e (some (.Name x pos')) pos.line X.env = pure false := by rfl) : PS X (.Assign [.Name x pos'] e pos) (rdS X.K W (setS i f)) :=
  ss_set n.nd n.ix n.loc n.fn he hs
theorem NmA.setO {f : OM} {pos' : Pos} (n : NmA X x i) (he : PE X e (rdO X.K W f)) (hs : swapsWith e (some (.Name x pos')) pos.line X.env = pure false := by rfl) : PS X (.Assign [.Name x pos'] e pos) (rdS X.K W (ownS i f)) :=
  ss_own n.nd n.ix n.loc n.fn he hs
theorem Cn.call {j n : Nat} {dms : List MV} {F : List MV → MH → Res MV} {fs : OM} (J : Cn X P w K mg base N sc own k) (tk : Takes X W) (G : FnS P w K mg base j x n dms F) (hj : j ≤ k) (g : NmG X x) (ha : PA X (e :: es) (rdA X.K W fs))
    (he : starEach (e :: es) X.env = (false, eval e X.env) :: starEach es X.env := by rfl) (hpl : (backTo pos (starEach es X.env)).any (·.1) = false := by rfl) :
    PE X (.Call (.Name x p) (e :: es) [] pos) (rdE X.K W (callE (callN n F) dms fs)) := se_call (J.fns G) (J.room.mono hj) tk g.gl g.db ha he hpl
theorem Cn.call0 {j n : Nat} {dms : List MV} {F : List MV → MH → Res MV} (J : Cn X P w K mg base N sc own k) (tk : Takes X W) (G : FnS P w K mg base j x n dms F) (hj : j ≤ k) (g : NmG X x) :
    PE X (.Call (.Name x p) [] [] pos) (rdE X.K W (callE (callN n F) dms nilA)) := se_call0 (J.fns G) (J.room.mono hj) tk g.gl g.db
end

/-! ### the module's facts -/
structure Md (fa : List He.Fa) (fn : List He.DefD) (ex : Kf → Bool) (K : Kf) (mg : Str → Option Value) : Prop where
  d : He.SaysD fa fn K
  e : ex K = true
  g : ∃ h : Heap, K.In h ∧ h.Ns mainGlobals mg
section
variable {fa : List He.Fa} {fn : List He.DefD} {ex : Kf → Bool} {K : Kf} {mg : Str → Option Value}
theorem Md.glo (M : Md fa fn ex K mg) (i : Nat) {x : Str} (h : fa[i]? = some (.glo x) := by rfl) : mg x = some (.ref (He.ga K x)) :=
  let ⟨_, hK, hG⟩ := M.g
  He.glo_ok hK hG (M.d.fact i h)
theorem Md.free (M : Md fa fn ex K mg) (i : Nat) {x : Str} (h : fa[i]? = some (.free x) := by rfl) : mg x = none :=
  let ⟨_, hK, hG⟩ := M.g
  He.free_ok hK hG (M.d.fact i h)
theorem Md.blt (M : Md fa fn ex K mg) {x : Str} {id : String} (h : bltB K x id = true) : mg x = some (.builtin id) :=
  let ⟨_, hK, hG⟩ := M.g
  PySem.W.mg_of hK hG (He.eqO_ok h)
/-- a def without defaults -/
theorem Md.bindN {x qual : Str} {params : Arguments} {body : List Stmt} {scope : Scope} {f : Addr} {fd : FuncData} {ps : List Str} (F : FunD K x qual params body scope [] [] f fd)
    (h : ∀ (kV doc pm : Value) (an : Option Addr) (cdv ct : Value) (us : List Value), us.length = ps.length → bindArgs (PySem.W.fnOf x qual params body scope .none kV doc pm an cdv ct) ⟨us, []⟩ = pure (ps.zip us)) : BindD K fd ps [] :=
  ⟨[], [], F.bindsN h, .nil, fun _ _ => .nil⟩
theorem Md.fn_ {P : Program} {w : World} {base : Heap} {d : He.DefD} {y : Str} {N ps : List Str} {k n : Nat} {dms : List MV} {b : SM} (M : Md fa fn ex K mg) (i : Nat) (hd : fn[i]? = some d) (hy : mg y = some (.ref (He.ga K y))) (hat : d.at_ = (y, none)) (S : FnScope N ps d.scope) (hn : ps.length = n)
    (hb : ∀ fd, FunD K d.name d.qual d.params d.body d.scope (d.dvs K) (d.kws K) (He.fAd K d.at_) fd → BindD K fd ps dms)
    (hbody : ∀ (X : Cx), Cn X P w K mg base N d.scope (fun _ => true) k → PassesOwn (model X.prog X.w) X.A X.env X.xe → ∀ W, Takes X W → PSs X d.body (rdS X.K W b)) :
    FnS P w K mg base (k + 1) y n dms (bodyF N.length n b) := by
  obtain ⟨fd, F⟩ := M.d.def_ i hd
  refine fn_def F S hn ?_ (hb fd F) N.length rfl fun X e1 e2 e3 e4 e5 e6 e7 e8 e9 e10 _ e12 W tk => hbody X ⟨e1, e2, e3, e4, e5, e6, e7, e8, fun x _ => e9 x, e10, S.nd⟩ e12 W tk
  have e : He.fAd K d.at_ = He.ga K y := by rw [hat] <;> rfl
  rw [hy, e]
/-- no code -/
theorem ss_none {X : Cx} {W : WX} {b : List Stmt} : PSs X b (rdS X.K W noS) := ⟨fun pins s σ H D I h => by
  obtain ⟨B, g, hm, σm, _, p⟩ := h
  exact p.elim⟩
end
end Mi
end P_M12
section P_M13
set_option Elab.async false
set_option linter.all false
set_option maxRecDepth 100000
set_option maxHeartbeats 4000000
/-! M13: list(zip(a, b)) -/
namespace Mi
open PySem PySem.Spec PyProof.Rows L2

theorem zipNoLen : typeLookup (.type "zip") "__len__" = pure none := by
  rw [typeLookup_type, builtinLookup_eq_fast]
  kernel_rfl
theorem zipNoHint : typeLookup (.type "zip") "__length_hint__" = pure none := by
  rw [typeLookup_type, builtinLookup_eq_fast]
  kernel_rfl
/-- a zip that is being walked by list(..): its cells; S: the list that is made -/
structure ZSt (z TI TO i1 i2 a b S : Addr) (i : Nat) (h : Heap) : Prop where
  hTI : IsPair h TI (.ref i1) (.ref i2)
  h1 : h.IsListIter i1 a i
  h2 : h.IsListIter i2 b i
  hTO : ∃ o, h.get? TO = some o
  hz : (IsZip h z TI TO .none ∧ ∃ x y, IsPair h TO x y) ∨ ∃ T f oT, IsZipHeld h z TI TO T f ∧ h.get? T = some oT ∧ T ≠ z ∧ T ≠ i1 ∧ T ≠ i2 ∧ T ≠ S
theorem ZSt.other {z TI TO i1 i2 a b S : Addr} {i : Nat} {h h' : Heap} (st : ZSt z TI TO i1 i2 a b S i h) (hS : S ∉ [z, TI, TO, i1, i2]) (k : ∀ c o, c ≠ S → h.get? c = some o → h'.get? c = some o) : ZSt z TI TO i1 i2 a b S i h' := by
  simp only [List.mem_cons, List.not_mem_nil, or_false, not_or] at hS
  obtain ⟨n1, n2, n3, n4, n5⟩ := hS
  refine ⟨k _ _ (Ne.symm n2) st.hTI, st.h1.at fun o e => k _ o (Ne.symm n4) e, st.h2.at fun o e => k _ o (Ne.symm n5) e, (let ⟨o, e⟩ := st.hTO; ⟨o, k _ _ (Ne.symm n3) e⟩), ?_⟩
  rcases st.hz with ⟨hz, x, y, hTO⟩ | ⟨T, f, oT, hz, hT, r1, r2, r3, r4⟩
  · exact .inl ⟨k _ _ (Ne.symm n1) hz, x, y, k _ _ (Ne.symm n3) hTO⟩
  · exact .inr ⟨T, f, oT, k _ _ (Ne.symm n1) hz, k _ _ r4 hT, r1, r2, r3, r4⟩
section
variable {X : Cx} {pins : List (Addr × Obj)} {σ : L2.St} {A : Around}
theorem fpLay {H : Hp} {b T : Addr} {o : HO} (f : FpOk X pins H b) (h : b ≠ T) : FpOk X pins (upd H T o) b := ⟨by rw [upd_ne h]; exact f.1, f.2⟩
theorem zip_step {z TI TO i1 i2 a b S : Addr} {i : Nat} {s : Shared} {H : Hp} {xs ys : List V} {x y : V} {E : Value → Shared → Prop} {Q : Option Value → Shared → Prop} (D : ZipApart z TI TO i1 i2 a b) (I : Inv X pins σ H s) (st : ZSt z TI TO i1 i2 a b S i s.heap)
    (hf : ∀ c ∈ [z, TI, TO, i1, i2], FpOk X pins H c) (qx : SqL X.K H a xs) (qy : SqL X.K H b ys) (hx : xs[i]? = some x) (hy : ys[i]? = some y) (hS : S < s.heap.objs.size)
    (k : ∀ (T : Addr) (s' : Shared), s.heap.objs.size ≤ T → Inv X pins σ (upd H T (.tup [x, y])) s' → ZSt z TI TO i1 i2 a b S (i + 1) s'.heap → (∀ c ∈ [z, TI, TO, i1, i2], FpOk X pins (upd H T (.tup [x, y])) c) → S < s'.heap.objs.size → Q (some (.ref T)) s') :
    wpAny (model X.prog X.w) A (pyNext (.ref z)) Q E s := by
  obtain ⟨its, rv, p, _⟩ := I.list qx
  obtain ⟨its2, rv2, p2, _⟩ := I.list qy
  obtain ⟨u, hu, ru⟩ := rv.get hx
  obtain ⟨u2, hu2, ru2⟩ := rv2.get hy
  have lt : ∀ {c o}, s.heap.get? c = some o → s.heap.objs.size ≠ c := fun e => Nat.ne_of_gt (Heap.lt_size e)
  have n1 : s.heap.objs.size ≠ i1 := let ⟨_, e, _⟩ := st.h1; lt e
  have n2 : s.heap.objs.size ≠ i2 := let ⟨_, e, _⟩ := st.h2; lt e
  have nI : s.heap.objs.size ≠ TI := lt st.hTI
  have nz : s.heap.objs.size ≠ z := by
    rcases st.hz with ⟨hz, _⟩ | ⟨_, _, _, hz, _⟩
    · exact lt hz
    · exact lt hz
  have fin : ∀ (h' : Heap), IsPair h' s.heap.objs.size u u2 → h'.objs.size = s.heap.objs.size + 1 → (∀ c o, c ≠ z → c ≠ TO → c ≠ i1 → c ≠ i2 → s.heap.get? c = some o → h'.get? c = some o) → ZSt z TI TO i1 i2 a b S (i + 1) h' →
      (∀ c ∈ [z, TI, TO, i1, i2], c ≠ s.heap.objs.size) → Q (some (.ref s.heap.objs.size)) { s with heap := h' } := fun h' hT hsz hk st' hne => by
    have new : ObjOk X.prog X.w (upd H s.heap.objs.size (.tup [x, y])) h' s.heap.objs.size (.tup [x, y]) := ⟨by show 2 ≤ sizeLine; decide, [u, u2], .cons ru (.cons ru2 .nil), ⟨_, hT, rfl, _, rfl⟩⟩
    have I1 : Inv X pins σ (upd H s.heap.objs.size (.tup [x, y])) { s with heap := h' } :=
      I.turnedNew (t' := s.toks) (ch := [z, TI, TO, i1, i2]) (fun c o hb q => hk c o (fun e => hb (by simp [e])) (fun e => hb (by simp [e])) (fun e => hb (by simp [e])) (fun e => hb (by simp [e])) q) hf (Nat.le_refl _) new
    exact k _ _ (Nat.le_refl _) I1 st' (fun c hc => fpLay (hf c hc) (hne c hc)) (by show S < h'.objs.size; rw [hsz]; exact Nat.lt_succ_of_lt hS)
  have nS : s.heap.objs.size ≠ S := Nat.ne_of_gt hS
  have nO : s.heap.objs.size ≠ TO := let ⟨_, e⟩ := st.hTO; lt e
  have ne : ∀ c ∈ [z, TI, TO, i1, i2], c ≠ s.heap.objs.size := fun c hc => by
    simp only [List.mem_cons, List.not_mem_nil, or_false] at hc
    rcases hc with rfl | rfl | rfl | rfl | rfl
    · exact Ne.symm nz
    · exact Ne.symm nI
    · exact Ne.symm nO
    · exact Ne.symm n1
    · exact Ne.symm n2
  rcases st.hz with ⟨hz, x0, y0, hTO⟩ | ⟨T, f, oT, hz, hT, r1, r2, r3, r4⟩
  · refine wpAny_pyNext_zip_item D hz st.hTI hTO st.h1 st.h2 p.isList p2.isList (x := u) (y := u2) (by simpa using hu) (by simpa using hu2) fun h' a1 a2 a3 a4 a5 a6 hk => ?_
    exact fin h' a5 a6 hk ⟨hk _ _ D.TIz D.TITO D.TIi1 D.TIi2 st.hTI, a3, a4, ⟨_, a2⟩, .inr ⟨_, false, _, a1, a5, nz, n1, n2, nS⟩⟩ ne
  · refine wpAny_pyNext_zip_item_held D hz hT st.hTI st.h1 st.h2 p.isList p2.isList (x := u) (y := u2) (by simpa using hu) (by simpa using hu2) fun h' a1 a3 a4 a5 a6 hk => ?_
    exact fin h' a5 a6 (fun c o c1 _ c3 c4 e => hk c o c1 c3 c4 e) ⟨hk _ _ D.TIz D.TIi1 D.TIi2 st.hTI, a3, a4, (let ⟨o, e⟩ := st.hTO; ⟨o, hk _ _ D.TOz D.TOi1 D.TOi2 e⟩), .inr ⟨T, true, oT, a1, hk _ _ r1 r2 r3 hT, r1, r2, r3, r4⟩⟩ ne
theorem zip_stop {z TI TO i1 i2 a b S : Addr} {i : Nat} {s : Shared} {H : Hp} {xs ys : List V} {E : Value → Shared → Prop} {Q : Option Value → Shared → Prop} (hh : A.handled = none) (D : ZipApart z TI TO i1 i2 a b) (I : Inv X pins σ H s) (st : ZSt z TI TO i1 i2 a b S i s.heap)
    (hf : ∀ c ∈ [z, TI, TO, i1, i2], FpOk X pins H c) (qx : SqL X.K H a xs) (qy : SqL X.K H b ys) (he : xs.length ≤ i ∨ ys.length ≤ i) (k : ∀ s' : Shared, Inv X pins σ H s' → Q none s') : wpAny (model X.prog X.w) A (pyNext (.ref z)) Q E s := by
  obtain ⟨its, rv, p, _⟩ := I.list qx
  obtain ⟨its2, rv2, p2, _⟩ := I.list qy
  have l1 := rv.length
  have l2 := rv2.length
  have he : its.toArray[i]? = none ∨ its2.toArray[i]? = none := by
    rcases he with q | q
    · exact .inl (by simp; omega)
    · exact .inr (by simp; omega)
  have fin : ∀ h' : Heap, (∀ c o, c ≠ z → c ≠ TO → c ≠ i1 → c ≠ i2 → s.heap.get? c = some o → h'.get? c = some o) → Q none { s with heap := h' } := fun h' hk =>
    k _ (I.turnedL (t' := s.toks) (ch := [z, TI, TO, i1, i2]) (fun c o hb q => hk c o (fun e => hb (by simp [e])) (fun e => hb (by simp [e])) (fun e => hb (by simp [e])) (fun e => hb (by simp [e])) q) hf)
  rcases st.hz with ⟨hz, x0, y0, hTO⟩ | ⟨T, f, oT, hz, hT, r1, r2, r3, r4⟩
  · exact wpAny_pyNext_zip_end hh D hz st.hTI hTO st.h1 st.h2 p.isList p2.isList he fin
  · exact wpAny_pyNext_zip_end_held hh D hz hT st.hTI st.h1 st.h2 p.isList p2.isList he fun h' hk => fin h' fun c o c1 _ c3 c4 e => hk c o c1 c3 c4 e
/-- the list's own part of the state -/
structure ZLs (X : Cx) (pins : List (Addr × Obj)) (σ : L2.St) (z TI TO i1 i2 a b S : Addr) (g1 : Gh) (hm : MH) (H1 : Hp) (pre : List MV) (i : Nat) (H : Hp) (s : Shared) : Prop where
  I : Inv X pins σ H s
  st : ZSt z TI TO i1 i2 a b S i s.heap
  hf : ∀ c ∈ [z, TI, TO, i1, i2], FpOk X pins H c
  lt : S < s.heap.objs.size
  kp : ∀ c o, H1 c = some o → H c = some o
  m : ∃ g ws, Ext X.K g1 hm H1 g hm H ∧ H S = some (.lst ws) ∧ RVs X.K g H pre ws ∧ ¬ g.F S ∧ ¬ Live g hm S
theorem sqL_kp {K : Kf} {H H' : Hp} {a : Addr} {xs : List V} (q : SqL K H a xs) (k : ∀ c o, H c = some o → H' c = some o) : SqL K H' a xs := by
  rcases q with (q | ⟨o, q⟩) | q
  · exact .inl (.inl (k _ _ q))
  · exact .inl (.inr ⟨o, k _ _ q⟩)
  · exact .inr q
/-- one item -/
theorem zip_turn {z TI TO i1 i2 a b S : Addr} {g1 : Gh} {hm : MH} {H1 : Hp} {xs ys : List MV} {vx vy : List V} {i : Nat} {H : Hp} {s : Shared} {E : Value → Shared → Prop} {Q : Option Value → Shared → Prop} (D : ZipApart z TI TO i1 i2 a b) (hS : S ∉ [z, TI, TO, i1, i2]) (h0 : H1 S = none)
    (rl : Rel X.K g1 hm H1) (qx : SqL X.K H1 a vx) (qy : SqL X.K H1 b vy) (rx : RVs X.K g1 H1 xs vx) (ry : RVs X.K g1 H1 ys vy) (Z : ZLs X pins σ z TI TO i1 i2 a b S g1 hm H1 ((zipL xs ys).take i) i H s) (hi : i < (zipL xs ys).length) (hz : (zipL xs ys).length ≤ zl)
    (k : ∀ (v : Value) (s2 : Shared), (∀ E' Q', (∀ H' s', ZLs X pins σ z TI TO i1 i2 a b S g1 hm H1 ((zipL xs ys).take (i + 1)) (i + 1) H' s' → Q' () s') → wpAny (model X.prog X.w) A (updateSeq S (·.push v)) Q' E' s2) → Q (some v) s2) :
    wpAny (model X.prog X.w) A (pyNext (.ref z)) Q E s := by
  have hg : (zipL xs ys)[i]? = some (zipL xs ys)[i] := List.getElem?_eq_getElem hi
  obtain ⟨m1, m2, e1, e2, e3⟩ := zipL_get hg
  obtain ⟨w1, t1, s1⟩ := rx.get e1
  obtain ⟨w2, t2, s2⟩ := ry.get e2
  obtain ⟨g, ws, ex, hl, rw_, nf, nl⟩ := Z.m
  refine zip_step D Z.I Z.st Z.hf (sqL_kp qx Z.kp) (sqL_kp qy Z.kp) t1 t2 Z.lt fun T s' hT I' st' hf' lt' => k _ _ fun E' Q' hQ => ?_
  have hTn : H T = none := Z.I.hok.fresh hT
  have ne : T ≠ S := fun e => absurd (show S < s.heap.objs.size from Z.lt) (Nat.not_lt.mpr (e ▸ hT))
  have hS1 : upd H T (.tup [w1, w2]) S = some (.lst ws) := by rw [upd_ne (Ne.symm ne)]; exact hl
  obtain ⟨z0, its, n, r, hlen, e⟩ := I'.lstM hS1
  have exT := Ext.fz (o := .tup [w1, w2]) ex.rel hTn
  have rT : RV X.K (g.fz T) (upd H T (.tup [w1, w2])) (.tup [m1, m2]) (.ref T) := .tup (.inr rfl) upd_same (by rw [zl_eq]; show 2 ≤ zl; decide) (.cons ((s1.up (ex.up rl)).up (exT.up ex.rel)) (.cons ((s2.up (ex.up rl)).up (exT.up ex.rel)) .nil))
  have nfT : ¬ (g.fz T).F S := fun f => (show g.F S ∨ S = T from f).elim nf fun e => ne e.symm
  have lw : ws.length = i := by
    rw [← rw_.length, List.length_take]
    omega
  have hlt : its.length + 1 ≤ sizeLine := by
    rw [zl_eq]
    omega
  have I2 := I'.lset (ys := ws ++ [.ref T]) (t' := s'.toks) (its' := its ++ [.ref T]) (f := fun q => q.push (.ref T)) hS1 e (by simp) (r.append (.cons (show RelV (.ref T) (.ref T) from rfl) .nil)) (by rw [List.length_append, List.length_singleton, zl_eq]; omega)
  refine wpAny_updateSeq e rfl (hQ _ _ ⟨I2, st'.other hS fun c o hc q => (Heap.get?_update_other _ _ (Ne.symm hc)).trans q, fun c hc => fpLay (hf' c hc) (fun q => hS (by rw [← q]; exact hc)), ?_, fun c o q => ?_, g.fz T, _, ?_, upd_same, ?_, ?_, ?_⟩) (by simp; omega) (by simp; omega)
  · show S < (s'.heap.update S _).objs.size
    rw [Heap.size_update]
    exact lt'
  · have nS : c ≠ S := fun z => by rw [z, h0] at q; cases q
    rw [upd_ne nS]
    have nT : c ≠ T := fun z => by
      have q2 := Z.kp c o q
      rw [z, hTn] at q2
      cases q2
    rw [upd_ne nT]
    exact Z.kp c o q
  · exact (ex.trans rl exT).wr h0 nfT nl
  · have et : (zipL xs ys).take (i + 1) = (zipL xs ys).take i ++ [.tup [m1, m2]] := by
      rw [List.take_add_one, hg, ← e3]
      rfl
    rw [et]
    exact (((rw_.up (exT.up ex.rel)).append (.cons rT .nil)).up (Up.wr nfT))
  · exact nfT
  · exact nl
/-- the loop of list(zip(..)) -/
theorem zip_loop {z TI TO i1 i2 a b S : Addr} {g1 : Gh} {hm : MH} {H1 : Hp} {xs ys : List MV} {vx vy : List V} {R : Result → Shared → Prop} {res : Value} (hh : A.handled = none) (D : ZipApart z TI TO i1 i2 a b) (hS : S ∉ [z, TI, TO, i1, i2]) (h0 : H1 S = none)
    (rl : Rel X.K g1 hm H1) (qx : SqL X.K H1 a vx) (qy : SqL X.K H1 b vy) (rx : RVs X.K g1 H1 xs vx) (ry : RVs X.K g1 H1 ys vy) (hz : (zipL xs ys).length ≤ zl)
    (k : ∀ H s g ws, Inv X pins σ H s → Ext X.K g1 hm H1 g hm H → H S = some (.lst ws) → RVs X.K g H (zipL xs ys) ws → ¬ g.F S → ¬ Live g hm S → R (.ok (.ret res)) s) :
    ∀ (n i : Nat) (H : Hp) (s : Shared), (zipL xs ys).length - i = n → i ≤ (zipL xs ys).length → ZLs X pins σ z TI TO i1 i2 a b S g1 hm H1 ((zipL xs ys).take i) i H s →
      codeAny (model X.prog X.w) A (.builtin "list.extend.loop" ⟨[.ref S, .ref z, res], []⟩) R s := by
  intro n
  induction n with
  | zero =>
    intro i H s hn hi Z
    have ei : i = (zipL xs ys).length := by omega
    refine codeAny_builtin F.entry_extend_loop ?_
    rw [Around.under_plainId F.plain_extend_loop _]
    show wpAny _ A.in1 (pyNext (.ref z) >>= _) _ _ s
    refine wpAny_bind (zip_stop (A := A.in1) hh D Z.I Z.st Z.hf (sqL_kp qx Z.kp) (sqL_kp qy Z.kp) ?_ fun s' I' => ?_)
    · rw [ei, zipL_length, ← rx.length, ← ry.length]
      omega
    · obtain ⟨g, ws, ex, hl, rw_, nf, nl⟩ := Z.m
      rw [ei, List.take_length] at rw_
      exact wpAny_pure (k H s' g ws I' ex hl rw_ nf nl)
  | succ n ih =>
    intro i H s hn hi Z
    refine codeAny_builtin F.entry_extend_loop ?_
    rw [Around.under_plainId F.plain_extend_loop _]
    show wpAny _ A.in1 (pyNext (.ref z) >>= _) _ _ s
    refine wpAny_bind (zip_turn D hS h0 rl qx qy rx ry Z (by omega) hz fun v s2 hu => ?_)
    show wpAny _ A.in1 (updateSeq S (·.push v) >>= _) _ _ _
    exact wpAny_bind (hu _ _ fun H' s' Z' => wpAny_pure ⟨plainId_quiet F.plain_extend_loop _, ih (i + 1) H' s' (by omega) (by omega) Z'⟩)
/-- list of a zip that has just been made -/
theorem call_list_zip {z TI TO i1 i2 a b : Addr} {g1 : Gh} {hm : MH} {H1 : Hp} {s : Shared} {xs ys : List MV} {vx vy : List V} {E : Value → Shared → Prop} {Q : Value → Shared → Prop} (hh : A.handled = none) (D : ZipApart z TI TO i1 i2 a b) (I : Inv X pins σ H1 s)
    (hf : ∀ c ∈ [z, TI, TO, i1, i2], FpOk X pins H1 c) (hlt : ∀ c ∈ [z, TI, TO, i1, i2], c < s.heap.objs.size) (hZ : IsZip s.heap z TI TO .none) (hTI : IsPair s.heap TI (.ref i1) (.ref i2)) (hTO : ∃ x y, IsPair s.heap TO x y) (h1 : s.heap.IsListIter i1 a 0) (h2 : s.heap.IsListIter i2 b 0)
    (rl : Rel X.K g1 hm H1) (qx : SqL X.K H1 a vx) (qy : SqL X.K H1 b vy) (rx : RVs X.K g1 H1 xs vx) (ry : RVs X.K g1 H1 ys vy) (hz : (zipL xs ys).length ≤ zl)
    (k : ∀ S H s g ws, Inv X pins σ H s → Ext X.K g1 hm H1 g hm H → H1 S = none → H S = some (.lst ws) → RVs X.K g H (zipL xs ys) ws → ¬ g.F S → ¬ Live g hm S → Q (.ref S) s) :
    wpAny (model X.prog X.w) A (call (.type "list") [.ref z]) Q E s := by
  have hSn : s.heap.objs.size ∉ [z, TI, TO, i1, i2] := fun hc => Nat.lt_irrefl _ (hlt _ hc)
  have h0 : H1 s.heap.objs.size = none := I.hok.fresh (Nat.le_refl _)
  refine callType_codes (Q₁ := fun obj s₁ => obj = .ref s.heap.objs.size ∧ s₁ = { s with heap := s.heap.push { cls := .type "list", data := .seq #[] } }) F.called_list (F.typeCall_list_1 _) F.entry_list_init (code_list_new _ ⟨rfl, rfl⟩) fun obj s₁ q₁ => ?_
  obtain ⟨rfl, rfl⟩ := q₁
  generalize hSe : s.heap.objs.size = S at *
  have hS1 : (s.heap.push { cls := .type "list", data := .seq #[] }).get? S = some { cls := .type "list", data := .seq #[] } := by rw [← hSe]; exact Heap.get?_push_size _ rfl
  refine ⟨⟨_, hS1, rfl⟩, F.args_list_init_2 _ _, ?_⟩
  show wpAny _ A.in1.in1 (do let old ← Builtin.List.listItems (.ref S); Builtin.List.listUpdate (.ref S) (fun _ => #[]); letGo old.toList.reverse; Builtin.List.listExtendWith (.ref S) (.ref z) .none) _ _ _
  refine wpAny_bind ?_
  unfold Builtin.List.listItems
  refine wpAny_bind (wpAny_seqItems hS1 rfl (wpAny_pure ?_))
  show wpAny _ A.in1.in1 (updateSeq S (fun _ => #[]) >>= fun _ => letGo (#[] : Array Value).toList.reverse >>= fun _ => Builtin.List.listExtendWith (.ref S) (.ref z) .none) _ _ _
  refine wpAny_bind (wpAny_updateSeq hS1 rfl ?_)
  have hS2 := Heap.get?_update_self (Obj.mapSeq (fun _ => (#[] : Array Value))) hS1 rfl
  refine wpAny_bind (wpAny_letGo ?_)
  have hSz : S ≠ z := fun e => hSn (by simp [e])
  have hTy : ∀ h' : Heap, h'.get? z = some { cls := .type "zip", dict := none, data := .fields #[.none, .bool false, .bool false, .ref TI, .ref TO], slots := #[] } → ({ s with heap := h' } : Shared).TypeIs (.ref z) "zip" := fun h' e => ⟨_, e, rfl⟩
  have oth : ∀ (f : Obj → Obj) (h' : Heap) (c : Addr) (o : Obj), c ≠ S → h'.get? c = some o → (h'.update S f).get? c = some o := fun f h' c o hc e => (Heap.get?_update_other _ _ (Ne.symm hc)).trans e
  have nS : ∀ c o, s.heap.get? c = some o → c ≠ S := fun c o e => by have := Heap.lt_size e; rw [hSe] at this; exact Nat.ne_of_lt this
  have k1 : ∀ c o, s.heap.get? c = some o → ((s.heap.push { cls := .type "list", data := .seq #[] }).update S (Obj.mapSeq fun _ => (#[] : Array Value))).get? c = some o := fun c o e => oth _ _ _ _ (nS c o e) (Heap.get?_push_of_some _ e)
  have hT1 := hTy _ (k1 _ _ hZ)
  unfold Builtin.List.listExtendWith
  refine wpAny_bind (wpAny_typeOf hT1 ?_)
  have b1 : Builtin.List.listSameRef (.ref S) (.ref z) = false := by simp [Builtin.List.listSameRef, hSz]
  have b2 : (Value.type "zip" == Value.type "list") = false := by decide
  have b3 : (Value.type "zip" == Value.type "tuple") = false := by decide
  simp only [b1, b2, b3, Bool.or_false, Bool.false_eq_true, if_false]
  refine wpAny_bind (wpAny_pyIter_zip (k1 _ _ hZ) ?_)
  refine wpAny_bind (wpAny_holding ?_)
  unfold Builtin.List.listLengthHint
  refine wpAny_bind (wpAny_specialOf hT1 zipNoLen ?_)
  show wpAny _ A.in1.in1 (specialOf (Value.ref z) (Str.ofString "__length_hint__") >>= _) _ _ _
  refine wpAny_bind (wpAny_specialOf hT1 zipNoHint ?_)
  refine wpAny_pure ?_
  show wpAny _ A.in1.in1 (rule "list.extend.makes-room" >>= fun _ => Builtin.List.listTouch (.ref S) >>= fun _ => again (.builtin "list.extend.loop" ⟨[.ref S, .ref z, .none], []⟩)) _ _ _
  refine wpAny_bind (wpAny_rule ?_)
  refine wpAny_bind ?_
  show wpAny _ A.in1.in1 (updateSeq S (·.push .none) >>= fun _ => updateSeq S (·.pop)) _ _ _
  refine wpAny_bind (wpAny_updateSeq hS2 rfl ?_)
  have hS3 := Heap.get?_update_self (Obj.mapSeq (·.push Value.none)) hS2 rfl
  refine wpAny_updateSeq (hz := by seq_fits) hS3 rfl ?_
  have hS4 := Heap.get?_update_self (Obj.mapSeq (·.pop)) hS3 rfl
  have k3 : ∀ c o, s.heap.get? c = some o → ((((s.heap.push { cls := .type "list", data := .seq #[] }).update S (Obj.mapSeq fun _ => (#[] : Array Value))).update S (Obj.mapSeq (·.push Value.none))).update S (Obj.mapSeq (·.pop))).get? c = some o := fun c o e =>
    oth _ _ _ _ (nS c o e) (oth _ _ _ _ (nS c o e) (k1 c o e))
  have hle : s.heap.objs.size ≤ S := Nat.le_of_eq hSe
  have I4 : Inv X pins σ (upd H1 S (.lst [])) { s with heap := (((s.heap.push { cls := .type "list", data := .seq #[] }).update S (Obj.mapSeq fun _ => (#[] : Array Value))).update S (Obj.mapSeq (·.push Value.none))).update S (Obj.mapSeq (·.pop)) } :=
    I.laid (a := S) (o := .lst []) (t' := s.toks) k3 hle ⟨by show 0 ≤ sizeLine; exact Nat.zero_le _, [], _, .nil, hS4⟩
  have ex0 := Ext.lay (o := .lst []) rl h0
  refine wpAny_pure ⟨plainId_quiet F.plain_extend_loop _, zip_loop (A := A.in1) (res := .none) (S := S) hh D hSn h0 rl qx qy rx ry hz (fun H s' g ws I' ex hl rw_ nf nl => ⟨rfl, k S H s' g ws I' ex h0 hl rw_ nf nl⟩) (zipL xs ys).length 0 (upd H1 S (.lst [])) _ rfl (Nat.zero_le _) ?_⟩
  refine ⟨I4, ⟨k3 _ _ hTI, h1.at fun o e => k3 _ o e, h2.at fun o e => k3 _ o e, (let ⟨_, _, e⟩ := hTO; ⟨_, k3 _ _ e⟩), .inl ⟨k3 _ _ hZ, (let ⟨x, y, e⟩ := hTO; ⟨x, y, k3 _ _ e⟩)⟩⟩, fun c hc => fpLay (hf c hc) fun e => hSn (by rw [← e]; exact hc), ?_, fun c o q => ?_, g1, [], ex0, upd_same, .nil, rl.new_nf h0, rl.new_nl h0⟩
  · show S < ((((s.heap.push { cls := .type "list", data := .seq #[] }).update S (Obj.mapSeq fun _ => (#[] : Array Value))).update S (Obj.mapSeq (·.push Value.none))).update S (Obj.mapSeq (·.pop))).objs.size
    rw [Heap.size_update, Heap.size_update, Heap.size_update, Heap.size_push, hSe]
    exact Nat.lt_succ_self _
  · rw [upd_ne (fun e => by rw [e, h0] at q; cases q)]
    exact q
/-- list(zip(a, b)) -/
def lzipO (fs : OM) : OM := bindE fs fun xs _ h => match xs with
  | [x, y] => (match seqM h x, seqM h y with
    | some xs, some ys => if (zipL xs ys).length ≤ zl then .ok (zipL xs ys) h else .no
    | _, _ => .no)
  | _ => .no
theorem so_lzip {W : WX} {e e2 : Expr} {fs : OM} {p p2 pos pos2 : Pos} (hc : X.calm = true) (n : NmB X "list" (.type "list")) (n2 : NmB X "zip" (.type "zip")) (ha : PA X [e, e2] (rdPA X.K W fs))
    (hs : starEach [e, e2] X.env = (false, eval e X.env) :: starEach [e2] X.env := by rfl) (hpl : (backTo pos2 (starEach [e2] X.env)).any (·.1) = false := by rfl) :
    PE X (.Call (.Name "list" p) [.Call (.Name "zip" p2) [e, e2] [] pos2] [] pos) (rdO X.K W (lzipO fs)) := by
  refine ⟨fun pins s σ H Q I h => ?_⟩
  obtain ⟨g, σm, hm, rl, R, pp⟩ := h
  have na : starEach [.Call (.Name "zip" p2) [e, e2] [] pos2] X.env = (false, eval (.Call (.Name "zip" p2) [e, e2] [] pos2) X.env) :: starEach [] X.env := rfl
  refine Call_ (ld_blt I n.gl n.mg boot_list (PyProof.Rows.callWith_type1 (args_cons (thn (Q := fun v s1 => ∃ z TI TO i1 i2 a b g1 hm1 H1 xs ys vx vy, v = .ref z ∧ ZipApart z TI TO i1 i2 a b ∧ Inv X pins σ H1 s1 ∧ (∀ c ∈ [z, TI, TO, i1, i2], FpOk X pins H1 c) ∧ (∀ c ∈ [z, TI, TO, i1, i2], c < s1.heap.objs.size) ∧
    IsZip s1.heap z TI TO .none ∧ IsPair s1.heap TI (.ref i1) (.ref i2) ∧ (∃ x y, IsPair s1.heap TO x y) ∧ s1.heap.IsListIter i1 a 0 ∧ s1.heap.IsListIter i2 b 0 ∧ Rel X.K g1 hm1 H1 ∧ SqL X.K H1 a vx ∧ SqL X.K H1 b vy ∧ RVs X.K g1 H1 xs vx ∧ RVs X.K g1 H1 ys vy ∧ (zipL xs ys).length ≤ zl ∧
    ∀ g' H' a ws, Ext X.K g1 hm1 H1 g' hm1 H' → H1 a = none → H' a = some (.lst ws) → RVs X.K g' H' (zipL xs ys) ws → ¬ g'.F a → ¬ Live g' hm1 a → Q (.ref a) H') ?_ fun v s1 hv => args_nil ?_) na) na))
  · refine Call_ (ld_blt I n2.gl n2.mg PyProof.Rows.boot_zip (PyProof.Rows.callWith_type1 (thn (ha.run pos2 pins s σ H (fun vs H1 => ∃ g1 hm1 xs, Ext X.K g hm H g1 hm1 H1 ∧ RPs X.K g1 hm1 H1 xs vs ∧ Post X.K W g1 hm1 σ H1 (match xs with
        | [x, y] => (match seqM hm1 x, seqM hm1 y with
          | some xs, some ys => if (zipL xs ys).length ≤ zl then .ok (zipL xs ys) hm1 else .no
          | _, _ => .no)
        | _ => .no) fun xs g' hm' H' => ∀ a vs, H a = none → H' a = some (.lst vs) → xs.length ≤ sizeLine → RVs X.K g' H' xs vs → ¬ g'.F a → ¬ Live g' hm' a → Q (.ref a) H') I ?_) fun us s1 hq => ?_) hs hpl))
    · exact ⟨g, σm, hm, rl, R, (Post.bind rl pp).mono fun xs g1 hm1 H1 e1 q vs rs => ⟨g1, hm1, xs, e1, rs, q⟩⟩
    · obtain ⟨vs, H1, I1, r1, g1, hm1, xs, e1, rs, q⟩ := hq
      split at q
      · rename_i x y
        obtain ⟨v1, v2, rfl, p1, p2⟩ := rs.two
        split at q
        · rename_i xs ys c1 c2
          by_cases hz : (zipL xs ys).length ≤ zl
          · rw [if_pos hz] at q
            obtain ⟨a, vx, rfl, qx, rx, _⟩ := p1.seq e1.rel c1
            obtain ⟨b, vy, rfl, qy, ry, _⟩ := p2.seq e1.rel c2
            cases r1 with
            | cons r rr =>
              cases rr with
              | cons r' rr =>
                cases rr
                cases r
                cases r'
                obtain ⟨its, rv, l1, _⟩ := I1.list qx
                obtain ⟨its2, rv2, l2, _⟩ := I1.list qy
                have la : a < s1.heap.objs.size := l1.lt
                have lb : b < s1.heap.objs.size := l2.lt
                refine call_zip_2 l1.isList l2.isList fun h' hzz hTI hTO h1 h2 hsz hk => ?_
                have I2 : Inv X pins σ H1 { s1 with heap := h' } := I1.kept (t' := s1.toks) hk
                have cs : ∀ c ∈ [s1.heap.objs.size + 4, s1.heap.objs.size + 2, s1.heap.objs.size + 3, s1.heap.objs.size, s1.heap.objs.size + 1], s1.heap.objs.size ≤ c ∧ c < h'.objs.size := fun c hc => by
                  simp only [List.mem_cons, List.not_mem_nil, or_false] at hc
                  rw [hsz]
                  rcases hc with rfl | rfl | rfl | rfl | rfl <;> exact ⟨by omega, by omega⟩
                refine ⟨s1.heap.objs.size + 4, s1.heap.objs.size + 2, s1.heap.objs.size + 3, s1.heap.objs.size, s1.heap.objs.size + 1, a, b, g1, hm1, H1, xs, ys, vx, vy, rfl, PySem.W.ktu_apart s1.heap.objs.size a b la lb, I2, fun c hc => I1.fpOk (cs c hc).1 (I1.hok.fresh (cs c hc).1), fun c hc => (cs c hc).2, hzz, hTI, ⟨_, _, hTO⟩, h1, h2, e1.rel, qx, qy, rx, ry, hz, fun g' H' a ws ex h0 hl rw_ nf nl => ?_⟩
                exact q g' H' ex a ws (e1.free h0) hl (by rw [zl_eq]; exact hz) rw_ nf nl
          · rw [if_neg hz] at q
            exact q.elim
        · exact q.elim
      · exact q.elim
  · obtain ⟨z, TI, TO, i1, i2, a, b, g1, hm1, H1, xs, ys, vx, vy, rfl, D, I1, hf, hlt, hzz, hTI, hTO, h1, h2, rl1, qx, qy, rx, ry, hz, k⟩ := hv
    exact call_list_zip (I.ok.hd hc) D I1 hf hlt hzz hTI hTO h1 h2 rl1 qx qy rx ry hz fun S H' s' g' ws I' ex h0 hl rw_ nf nl => ⟨.ref S, H', I', rfl, k g' H' S ws ex h0 hl rw_ nf nl⟩
end
end Mi
end P_M13
section P_M14
set_option Elab.async false
set_option linter.all false
set_option maxRecDepth 100000
set_option maxHeartbeats 4000000
/-! M14: pairs at once, dicts, chains, comprehensions under a name, calls with keywords -/
namespace Mi
open PySem PySem.Spec PyProof.Rows L2

/-! ### what depends on the scope alone -/
def env0 (sc : Scope) : Env := envOfC "" sc 0 0 .none
theorem swst_eq {ts : List Expr} {v : Expr} {env env' : Env} (h : env.scope = env'.scope) : swappedStores ts v env = swappedStores ts v env' := by
  unfold swappedStores Env.kindOf Env.blockKind
  rw [h]
theorem sww_eq {v : Expr} {t : Option Expr} {l : Nat} {env env' : Env} (h : env.scope = env'.scope) : swapsWith v t l env = swapsWith v t l env' := by
  unfold swapsWith Env.kindOf Env.blockKind
  rw [h]
section
variable {X : Cx} {P : Program} {w : World} {K : Kf} {mg : Str → Option Value} {base : Heap} {N : List Str} {sc : Scope} {own : Str → Bool} {k : Nat} {W : WX}
theorem Cn.swst (J : Cn X P w K mg base N sc own k) {ts : List Expr} {v : Expr} {r : Sem (Option (List Str))} (h : swappedStores ts v (env0 sc) = r) : swappedStores ts v X.env = r := (swst_eq J.es).trans h
theorem Cn.sww (J : Cn X P w K mg base N sc own k) {v : Expr} {t : Option Expr} {l : Nat} {r : Sem Bool} (h : swapsWith v t l (env0 sc) = r) : swapsWith v t l X.env = r := (sww_eq J.es).trans h

/-! ### a, b = x, y -/
/-- what is put into a slot: a value, or a new list of its own -/
inductive PT2 where
  | v (f : EM) | o (f : OM)
def PT2.run (p : PT2) (i : Nat) (σ : Sl) (h : MH) : Res SV := match p with
  | .v f => bindR (f σ h) fun m h => .ok (.val m) h
  | .o f => bindR (f σ h) fun m h => .ok (.own m) h
def par2S (i j : Nat) (a b : PT2) : SM := bindS (bindE (a.run i) fun x => bindE (b.run j) fun y _ h => .ok (x, y) h) fun q σ h => .nx ((σ.set i q.1).set j q.2) h
def rdQ (K : Kf) (W : WX) : PT2 → TE
  | .v f => rdE K W f
  | .o f => rdO K W f
def SQ (K : Kf) (g0 : Gh) (hm0 : MH) (H0 : Hp) (g : Gh) (hm : MH) (H : Hp) : SV → V → Prop
  | .un, _ => False
  | .val m, v => RV K g H m v
  | .own xs, v => ∃ a vs, v = .ref a ∧ H0 a = none ∧ H a = some (.lst vs) ∧ xs.length ≤ sizeLine ∧ RVs K g H xs vs ∧ ¬ g.F a ∧ ¬ Live g hm a
theorem SQ.ext {g0 g g' : Gh} {hm0 hm hm' : MH} {H0 H H' : Hp} {s : SV} {v : V} (r : Rel K g hm H) (e : Ext K g hm H g' hm' H') (q : SQ K g0 hm0 H0 g hm H s v) : SQ K g0 hm0 H0 g' hm' H' s v := by
  cases s with
  | un => exact q
  | val m => exact RV.up (e.up r) q
  | own xs =>
    obtain ⟨a, vs, rfl, h0, h1, z, rs, nf, nl⟩ := q
    have hn : H a ≠ none := by rw [h1]; intro z; cases z
    exact ⟨a, vs, rfl, h0, e.keep _ _ h1 nl, z, rs.up (e.up r), fun f => (e.f2 a f).elim nf hn, fun l => nl (e.live' r hn l)⟩
theorem rd_q {p : PT2} {i : Nat} {g : Gh} {hm : MH} {σm : Sl} {σ : L2.St} {H : Hp} {Q : VK} {P : SV → Gh → MH → Hp → Prop} (rl : Rel K g hm H) (R : REnv K g hm H σm σ) (h : Post K W g hm σ H (p.run i σm hm) P)
    (k : ∀ s g' hm' H' v, Ext K g hm H g' hm' H' → SQ K g hm H g' hm' H' s v → P s g' hm' H' → Q v H') : rdQ K W p σ H Q := by
  cases p with
  | v f =>
    refine ⟨g, σm, hm, rl, R, (Post.bind rl h).mono fun m g' hm' H' e q v rv => ?_⟩
    exact k (.val m) g' hm' H' v e rv (q g' H' (.refl e.rel))
  | o f =>
    refine ⟨g, σm, hm, rl, R, (Post.bind rl h).mono fun m g' hm' H' e q a vs h0 h1 z rs nf nl => ?_⟩
    exact k (.own m) g' hm' H' (.ref a) e ⟨a, vs, rfl, h0, h1, z, rs, nf, nl⟩ (q g' H' (.refl e.rel))
/-- a slot is put -/
theorem StS.put {B : Gd} {g0 g : Gh} {hm0 hm : MH} {H0 H : Hp} {σm : Sl} {σ : L2.St} {s : SV} {v : V} (S : StS K B g hm H σm σ) (i : Nat) (q : SQ K g0 hm0 H0 g hm H s v) (hB : ∀ a, H0 a = none → B.H a = none)
    (ne : ∀ a, v = .ref a → (∃ xs, s = .own xs) → ∀ (j : Nat) (ys : List MV), j ≠ i → σm[j]? = some (.own ys) → σ[j]? ≠ some (some (.ref a))) : StS K B g hm H (σm.set i s) (σ.set i (some v)) := by
  cases s with
  | un => exact q.elim
  | val m => exact S.set_val i q
  | own xs =>
    obtain ⟨a, vs, rfl, h0, h1, z, rs, nf, nl⟩ := q
    exact S.set_own i (hB a h0) z h1 rs nf nl (ne a rfl ⟨xs, rfl⟩)
theorem own_ne {g0 : Gh} {hm0 : MH} {H0 : Hp} {σm : Sl} {σ : L2.St} (R : REnv K g0 hm0 H0 σm σ) {a : Addr} (h0 : H0 a = none) (j : Nat) (ys : List MV) (hj : σm[j]? = some (.own ys)) : σ[j]? ≠ some (some (.ref a)) := fun q => by
  obtain ⟨b, ws, q1, _, q3, _⟩ := R.own hj
  rw [q1] at q
  have eb : b = a := by injection q with q; injection q with q; injection q
  rw [eb, h0] at q3
  cases q3
theorem rd_par2 {i j : Nat} {a b : PT2} (D : Ends) (σ : L2.St) (H : Hp) (hij : i ≠ j) (h : rdS K W (par2S i j a b) D σ H) : tPar i j (tCons (rdQ K W a) (tCons (rdQ K W b) tNil)) D σ H := by
  obtain ⟨B, g, hm, σm, s, p⟩ := h
  have p := Post.toE (W := W) (P := fun (q : SV × SV) g' hm' H' => PostS K W B (.nx ((σm.set i q.1).set j q.2) hm') D) (r := bindR (a.run i σm hm) fun x h1 => bindR (b.run j σm h1) fun y h => .ok (x, y) h) (k := fun q h => .nx ((σm.set i q.1).set j q.2) h) s _ rfl p fun q g' hm' H' e k => k
  refine rd_q (i := i) s.rel s.en (Post.bind s.rel p) fun x g1 hm1 H1 v1 e1 q1o p1 => ?_
  refine rd_q (i := j) e1.rel (s.en.ext s.rel e1) (Post.bind e1.rel p1) fun y g2 hm2 H2 v2 e2 q2 p2 => ?_
  have k : PostS K W B (.nx ((σm.set i x).set j y) hm2) D := p2 g2 H2 (.refl e2.rel)
  refine ⟨v1, v2, rfl, k g2 H2 _ ?_⟩
  have e12 := e1.trans s.rel e2
  have s2 := s.ext e12
  have q1 := q1o.ext e1.rel e2
  have hB : ∀ a, H a = none → B.H a = none := fun a ha => s.ex.free ha
  have s3 := s2.put i q1 hB fun a ea ⟨xs, es⟩ j ys _ hj => by
    subst es
    obtain ⟨a', vs, ev, h0, _⟩ := q1
    rw [ev] at ea
    cases ea
    exact own_ne s.en h0 j ys hj
  refine s3.put j q2 (fun a ha => hB a (e1.free ha)) fun a ea ⟨xs, es⟩ l ys hl hj => ?_
  subst es
  obtain ⟨a', vs, ev, h0, _⟩ := q2
  rw [ev] at ea
  cases ea
  rcases get_set hj with ⟨rfl, ex, li⟩ | ⟨c, hj⟩
  · subst ex
    obtain ⟨a1, vs1, ev1, h01, h11, _⟩ := q1o
    have li' : l < σ.length := by rw [← s.en.len]; exact li
    rw [List.getElem?_set_self li', ev1]
    intro z
    have ea : a1 = a := by injection z with z; injection z with z; injection z
    rw [ea, h0] at h11
    cases h11
  · rw [List.getElem?_set_ne (Ne.symm c)]
    exact own_ne s.en (e1.free h0) l ys hj
theorem Cn.par2 {i j : Nat} {x y : Str} {e1 e2 : Expr} {a b : PT2} {px py pt pos : Pos} {kt k2 pt2} (J : Cn X P w K mg base N sc own k) (nx : NmA X x i) (ny : NmA X y j) (hij : i ≠ j) (lx : sc.names.lookup x = some .local) (ly : sc.names.lookup y = some .local)
    (ha : PE X e1 (rdQ X.K W a)) (hb : PE X e2 (rdQ X.K W b)) (hw : swappedStores [.Tuple [.Name x px, .Name y py] kt pt] (.Tuple [e1, e2] k2 pt2) (env0 sc) = pure (some [x, y]))
    (hs : swapsWithSole [.Tuple [.Name x px, .Name y py] kt pt] (.Tuple [e1, e2] k2 pt2) pos.line X.env = pure false := by rfl) (hs1 : starEach [e1, e2] X.env = (false, eval e1 X.env) :: starEach [e2] X.env := by rfl) (hs2 : starEach [e2] X.env = (false, eval e2 X.env) :: starEach [] X.env := by rfl) :
    PS X (.Assign [.Tuple [.Name x px, .Name y py] kt pt] (.Tuple [e1, e2] k2 pt2) pos) (rdS X.K W (par2S i j a b)) :=
  imp_s (ps_par J.calm nx.nd nx.ix ny.ix hij (by rw [J.es]; exact lx) (by rw [J.es]; exact ly) (pa_cons ha (pa_cons hb pa_nil hs2) hs1) (J.swst hw) hs) fun D σ H h => rd_par2 D σ H hij h
/-! three at once -/
def par3S (i j l : Nat) (a b c : PT2) : SM := bindS (bindE (a.run i) fun x => bindE (b.run j) fun y => bindE (c.run l) fun z _ h => .ok (x, y, z) h) fun q σ h => .nx (((σ.set i q.1).set j q.2.1).set l q.2.2) h
theorem rd_par3 {i j l : Nat} {a b c : EM} (D : Ends) (σ : L2.St) (H : Hp) (h : rdS K W (par3S i j l (.v a) (.v b) (.v c)) D σ H) : tPar3 i j l (tCons (rdE K W a) (tCons (rdE K W b) (tCons (rdE K W c) tNil))) D σ H := by
  obtain ⟨B, g, hm, σm, s, p⟩ := h
  have p := Post.toE (W := W) (P := fun (q : SV × SV × SV) g' hm' H' => PostS K W B (.nx (((σm.set i q.1).set j q.2.1).set l q.2.2) hm') D) (r := bindR (PT2.run (.v a) i σm hm) fun x h1 => bindR (PT2.run (.v b) j σm h1) fun y h2 => bindR (PT2.run (.v c) l σm h2) fun z h => .ok (x, y, z) h)
    (k := fun q h => .nx (((σm.set i q.1).set j q.2.1).set l q.2.2) h) s _ rfl p fun q g' hm' H' e k => k
  refine ⟨g, σm, hm, s.rel, s.en, (Post.bind s.rel (Post.bind s.rel p)).mono fun x g1 hm1 H1 e1 p1 v1 r1 => ?_⟩
  have p1 := p1 g1 H1 (.refl e1.rel)
  have s1 := s.ext e1
  refine ⟨g1, σm, hm1, e1.rel, s1.en, (Post.bind e1.rel (Post.bind e1.rel p1)).mono fun y g2 hm2 H2 e2 p2 v2 r2 => ?_⟩
  have p2 := p2 g2 H2 (.refl e2.rel)
  have s2 := s1.ext e2
  refine ⟨g2, σm, hm2, e2.rel, s2.en, (Post.bind e2.rel (Post.bind e2.rel p2)).mono fun z g3 hm3 H3 e3 p3 v3 r3 => ?_⟩
  have p3 := p3 g3 H3 (.refl e3.rel) g3 H3 (.refl e3.rel)
  have s3 := s2.ext e3
  have k : PostS K W B (.nx (((σm.set i (.val x)).set j (.val y)).set l (.val z)) hm3) D := p3
  exact ⟨v1, v2, v3, rfl, k g3 H3 _ (((s3.set_val i ((r1.up (e2.up e1.rel)).up (e3.up e2.rel))).set_val j (r2.up (e3.up e2.rel))).set_val l r3)⟩
theorem Cn.par3 {i j l : Nat} {x y z : Str} {e1 e2 e3 : Expr} {a b c : EM} {px py pz pt pos : Pos} {kt k2 pt2} (J : Cn X P w K mg base N sc own k) (nx : NmA X x i) (ny : NmA X y j) (nz : NmA X z l) (hij : i ≠ j) (hil : i ≠ l) (hjl : j ≠ l) (lx : sc.names.lookup x = some .local) (ly : sc.names.lookup y = some .local) (lz : sc.names.lookup z = some .local)
    (ha : PE X e1 (rdE X.K W a)) (hb : PE X e2 (rdE X.K W b)) (hc : PE X e3 (rdE X.K W c)) (hw : swappedStores [.Tuple [.Name x px, .Name y py, .Name z pz] kt pt] (.Tuple [e1, e2, e3] k2 pt2) (env0 sc) = pure (some [x, y, z]))
    (hs : swapsWithSole [.Tuple [.Name x px, .Name y py, .Name z pz] kt pt] (.Tuple [e1, e2, e3] k2 pt2) pos.line X.env = pure false := by rfl) (hs1 : starEach [e1, e2, e3] X.env = (false, eval e1 X.env) :: starEach [e2, e3] X.env := by rfl) (hs2 : starEach [e2, e3] X.env = (false, eval e2 X.env) :: starEach [e3] X.env := by rfl) (hs3 : starEach [e3] X.env = (false, eval e3 X.env) :: starEach [] X.env := by rfl) :
    PS X (.Assign [.Tuple [.Name x px, .Name y py, .Name z pz] kt pt] (.Tuple [e1, e2, e3] k2 pt2) pos) (rdS X.K W (par3S i j l (.v a) (.v b) (.v c))) :=
  imp_s (ps_par3 J.calm nx.nd nx.ix ny.ix nz.ix hij hil hjl (by rw [J.es]; exact lx) (by rw [J.es]; exact ly) (by rw [J.es]; exact lz) (pa_cons ha (pa_cons hb (pa_cons hc pa_nil hs3) hs2) hs1) (J.swst hw) hs) rd_par3
/-! a, b = x, y where a name is a cell; the first a new list of its own -/
theorem rdO_mono {f : OM} {σ : L2.St} {H : Hp} {Q Q' : VK} (h : rdO K W f σ H Q) (k : ∀ v H, Q v H → Q' v H) : rdO K W f σ H Q' :=
  let ⟨g, σm, hm, r, R, p⟩ := h
  ⟨g, σm, hm, r, R, p.mono fun _ _ _ _ _ q a vs h0 h1 z rv nf nl => k _ _ (q a vs h0 h1 z rv nf nl)⟩
theorem rdQ_mono {p : PT2} {σ : L2.St} {H : Hp} {Q Q' : VK} (h : rdQ K W p σ H Q) (k : ∀ v H, Q v H → Q' v H) : rdQ K W p σ H Q' := by
  cases p with
  | v f => exact rdE_mono h k
  | o f => exact rdO_mono h k
/-- an object more may be laid behind the statement -/
theorem rdS_lay {f : SM} {D : Ends} {σ : L2.St} {H : Hp} (h : rdS K W f D σ H) : rdS K W f { D with nx := fun σ H => ∀ p o, H p = none → D.nx σ (upd H p o) } σ H := by
  obtain ⟨B, g, hm, σm, s, p⟩ := h
  refine ⟨B, g, hm, σm, s, ?_⟩
  cases c : f σm hm with
  | nx σ1 h1 =>
    rw [c] at p
    exact fun g' H' σ' s' q o hq => p g' _ σ' (s'.ext (Ext.lay s'.rel hq))
  | rt m h1 => rw [c] at p; exact p
  | bk σ1 h1 => rw [c] at p; exact p
  | ct σ1 h1 => rw [c] at p; exact p
  | ex c1 m σ1 h1 => rw [c] at p; exact p
  | no => rw [c] at p; exact p
theorem rd_asg2 {i j : Nat} {a b : PT2} (D : Ends) (σ : L2.St) (H : Hp) (hij : i ≠ j) (h : rdS K W (par2S i j a b) D σ H) : tAsg (tTup (tCons (rdQ K W a) (tCons (rdQ K W b) tNil))) (gTup K 2 (gCons (gName i) (gCons (gName j) gNil))) D σ H := by
  have z : tPar i j (tCons (rdQ K W a) (tCons (rdQ K W b) tNil)) _ σ H := rd_par2 _ σ H hij (rdS_lay h)
  refine rdQ_mono z fun x H1 q => rdQ_mono q fun y H2 q => ?_
  obtain ⟨v, w, e, q⟩ := q
  cases e
  refine ⟨by rw [zl_eq]; show 2 ≤ zl; decide, fun p hp => ⟨p, [x, y], rfl, SqT.of upd_same, rfl, x, [y], rfl, y, [], rfl, rfl, ?_⟩⟩
  exact q p _ hp
theorem Cn.asg2 {i j : Nat} {x y : Str} {e1 e2 : Expr} {a b : PT2} {px py pt pos : Pos} {kt k2 pt2} (J : Cn X P w K mg base N sc own k) (nx : NmA X x i) (ny : NmA X y j) (hij : i ≠ j)
    (ha : PE X e1 (rdQ X.K W a)) (hb : PE X e2 (rdQ X.K W b)) (hw : swappedStores [.Tuple [.Name x px, .Name y py] kt pt] (.Tuple [e1, e2] k2 pt2) (env0 sc) = pure none)
    (hs : swapsWithSole [.Tuple [.Name x px, .Name y py] kt pt] (.Tuple [e1, e2] k2 pt2) pos.line X.env = pure false := by rfl) (hs1 : starEach [e1, e2] X.env = (false, eval e1 X.env) :: starEach [e2] X.env := by rfl) (hs2 : starEach [e2] X.env = (false, eval e2 X.env) :: starEach [] X.env := by rfl) :
    PS X (.Assign [.Tuple [.Name x px, .Name y py] kt pt] (.Tuple [e1, e2] k2 pt2) pos) (rdS X.K W (par2S i j a b)) :=
  imp_s (ps_asg (pe_tup (pa_cons ha (pa_cons hb pa_nil hs2) hs1)) (pg_tup (n := 2) J.calm (pgs_cons (pg_name nx.nd nx.ix nx.loc nx.fn) (pgs_cons (pg_name ny.nd ny.ix ny.loc ny.fn) pgs_nil))) hs (J.swst hw)) fun D σ H h => rd_asg2 D σ H hij h
/-- any value to any target -/
theorem Cn.asg {tg e : Expr} {t : Tgt} {is : List Nat} {f : EM} {pos : Pos} (J : Cn X P w K mg base N sc own k) (he : PE X e (rdE X.K W f)) (hg : PG X tg (rdG X.K t is)) (hw : swappedStores [tg] e (env0 sc) = pure none) (hs : swapsWithSole [tg] e pos.line X.env = pure false := by rfl)
    (h1 : (assignEach [tg] X.env).map (·.2) = [assign tg X.env] := by rfl) : PS X (.Assign [tg] e pos) (rdS X.K W (asgS t f)) := ss_asg he hg hs (J.swst hw) h1

/-! ### name = [..] on one line -/
theorem Cn.setLc {i : Nat} {y : Str} {py : Pos} {elt tg iter : Expr} {ifs : List Expr} {scope : Scope} {vs : List (Str × Nat)} {pos spos : Pos} {fi : OM} {t : Tgt} {is : List Nat} {c : TM} {f : EM} (J : Cn X P w K mg base N sc own k) (n : NmA X y i) (hy : sc.names.lookup y = some .local)
    (hsw : swapsWith (.ListComp elt [⟨tg, iter, ifs, 0⟩] scope pos) (some (.Name y py)) spos.line (env0 sc) = pure true) (hi : PI X tg iter (rdIP X.K W fi)) (ok : blkC N sc scope vs = true)
    (hg : ∀ (s : Shared) (H : Hp) (C : Addr) (cl : List (Str × Addr)) (fp : List Addr), PG (X.blk s H scope (compEnvC scope cl C X.env) fp) tg (rdG X.K t is))
    (ht : ∀ (s : Shared) (H : Hp) (C : Addr) (cl : List (Str × Addr)) (fp : List Addr), PTs (X.blk s H scope (compEnvC scope cl C X.env) fp) ifs (rdT X.K WNo c))
    (he : ∀ (s : Shared) (H : Hp) (C : Addr) (cl : List (Str × Addr)) (fp : List Addr), PE (X.blk s H scope (compEnvC scope cl C X.env) fp) elt (rdE X.K WNo f)) (hsub : ∀ j ∈ is, j ∈ vs.map (·.2))
    (hs : ∀ x, foldedSetIterable iter X.env x = pure x := by intro _; rfl) :
    PS X (.Assign [.Name y py] (.ListComp elt [⟨tg, iter, ifs, 0⟩] scope pos) spos) (rdS X.K W (setS i (wrapL (compO (vs.map (·.2)) fi t c f)))) :=
  imp_s (ps_setLc J.calm n.nd n.ix (by rw [J.es]; exact hy) (J.sww hsw) hi (J.blkOk ok) hg ht he hs) fun D σ H h => by
    have z := rd_set D σ H h
    obtain ⟨g, σm, hm, r, R, p⟩ := z
    refine rd_comp hsub σ H _ ⟨g, σm, hm, r, R, ?_⟩
    unfold wrapL at p
    cases c : compO (vs.map (·.2)) fi t c f σm hm with
    | ok xs h' =>
      rw [c] at p
      intro g' H' e a vs h0 h1 z rv nf nl
      obtain ⟨e2, u⟩ := Ext.fzo e h0 (by rw [h1]; intro z; cases z) nl
      exact p (g'.fz a) H' e2 _ (.lst (.inr rfl) h1 z (rv.up u))
    | ex c m h' => rw [c] at p; exact p
    | no => rw [c] at p; exact p
theorem Cn.comp {elt tg iter : Expr} {ifs : List Expr} {scope : Scope} {vs : List (Str × Nat)} {pos : Pos} {fi : OM} {t : Tgt} {is : List Nat} {c : TM} {f : EM} (J : Cn X P w K mg base N sc own k) (hi : PI X tg iter (rdIP X.K W fi)) (ok : blkC N sc scope vs = true)
    (hg : ∀ (s : Shared) (H : Hp) (C : Addr) (cl : List (Str × Addr)) (fp : List Addr), PG (X.blk s H scope (compEnvC scope cl C X.env) fp) tg (rdG X.K t is))
    (ht : ∀ (s : Shared) (H : Hp) (C : Addr) (cl : List (Str × Addr)) (fp : List Addr), PTs (X.blk s H scope (compEnvC scope cl C X.env) fp) ifs (rdT X.K WNo c))
    (he : ∀ (s : Shared) (H : Hp) (C : Addr) (cl : List (Str × Addr)) (fp : List Addr), PE (X.blk s H scope (compEnvC scope cl C X.env) fp) elt (rdE X.K WNo f)) (hsub : ∀ j ∈ is, j ∈ vs.map (·.2))
    (hs : ∀ x, foldedSetIterable iter X.env x = pure x := by intro _; rfl) : PE X (.ListComp elt [⟨tg, iter, ifs, 0⟩] scope pos) (rdO X.K W (compO (vs.map (·.2)) fi t c f)) :=
  so_comp J.calm J.nodup hi (J.blkOk ok) hg ht he hsub hs
end
end Mi
end P_M14
section P_M15
set_option Elab.async false
set_option linter.all false
set_option maxRecDepth 100000
set_option maxHeartbeats 4000000
/-! M15: dicts, chains, calls with keywords -/
namespace Mi
open PySem PySem.Spec PyProof.Rows L2

def keyM : MV → Option Key
  | .int i => some (.inl i)
  | .str s => some (.inr (toS s))
  | _ => none
def valM (ks : List (Key × MV)) (k : Key) : Option MV := (ks.find? fun kv => decide (kv.1 = k)).map (·.2)
def putM (ks : List (Key × MV)) (k : Key) (v : MV) : List (Key × MV) :=
  if (ks.any fun kv => decide (kv.1 = k)) = true then ks.map (fun kv => if kv.1 = k then (kv.1, v) else kv) else ks ++ [(k, v)]
def mergeM (ks more : List (Key × MV)) : List (Key × MV) := more.foldl (fun acc kv => putM acc kv.1 kv.2) ks
section
variable {K : Kf} {g : Gh} {H : Hp}
theorem RKs.app : ∀ {ks ms : List (Key × MV)} {kvs mvs : List (Key × V)}, RKs K g H ks kvs → RKs K g H ms mvs → RKs K g H (ks ++ ms) (kvs ++ mvs)
  | _, _, _, _, .nil, s => s
  | _, _, _, _, .cons r t, s => .cons r (RKs.app t s)
theorem RKs.any {k : Key} : ∀ {ks : List (Key × MV)} {kvs : List (Key × V)}, RKs K g H ks kvs → (ks.any fun kv => decide (kv.1 = k)) = kvs.any fun kv => decide (kv.1 = k)
  | _, _, .nil => rfl
  | _, _, .cons r t => by rw [List.any_cons, List.any_cons, RKs.any t]
theorem RKs.val {k : Key} {m : MV} : ∀ {ks : List (Key × MV)} {kvs : List (Key × V)}, RKs K g H ks kvs → valM ks k = some m → ∃ v, valV kvs k = some v ∧ RV K g H m v
  | _, _, .nil, h => by cases h
  | (k', x) :: ks, (_, v) :: kvs, .cons r t, h => by
    by_cases c : k' = k
    · unfold valM at h
      rw [List.find?_cons_of_pos (by simpa using c)] at h
      cases h
      exact ⟨v, valV_pos c, r⟩
    · have h' : valM ks k = some m := by
        unfold valM at h ⊢
        rw [List.find?_cons_of_neg (by simpa using c)] at h
        exact h
      obtain ⟨v', h1, h2⟩ := RKs.val t h'
      exact ⟨v', by rw [valV_neg c]; exact h1, h2⟩
theorem RKs.mp {k : Key} {m : MV} {v : V} (rv : RV K g H m v) : ∀ {ks : List (Key × MV)} {kvs : List (Key × V)}, RKs K g H ks kvs → RKs K g H (ks.map fun kv => if kv.1 = k then (kv.1, m) else kv) (kvs.map fun kv => if kv.1 = k then (kv.1, v) else kv)
  | _, _, .nil => .nil
  | (k', x) :: ks, (_, y) :: kvs, .cons r t => by
    rw [List.map_cons, List.map_cons]
    by_cases c : k' = k
    · simp only [c, if_true]
      exact .cons rv (RKs.mp rv t)
    · simp only [c, if_false]
      exact .cons r (RKs.mp rv t)
theorem RKs.put {k : Key} {m : MV} {v : V} {ks : List (Key × MV)} {kvs : List (Key × V)} (r : RKs K g H ks kvs) (rv : RV K g H m v) : RKs K g H (putM ks k m) (putK kvs k v) := by
  unfold putM putK
  rw [r.any]
  split
  · exact RKs.mp rv r
  · exact r.app (.cons rv .nil)
theorem RKs.merge : ∀ {ms : List (Key × MV)} {mvs : List (Key × V)} {ks : List (Key × MV)} {kvs : List (Key × V)}, RKs K g H ms mvs → RKs K g H ks kvs → RKs K g H (mergeM ks ms) (mergeK kvs mvs)
  | _, _, _, _, .nil, s => s
  | (k, x) :: ms, (_, v) :: mvs, ks, kvs, .cons r t, s => RKs.merge (ms := ms) (mvs := mvs) (ks := putM ks k x) (kvs := putK kvs k v) t (s.put r)
theorem RKs.length : ∀ {ks : List (Key × MV)} {kvs : List (Key × V)}, RKs K g H ks kvs → ks.length = kvs.length
  | _, _, .nil => rfl
  | _, _, .cons _ t => congrArg (· + 1) t.length
end
theorem Post.from {α : Type} {K : Kf} {W : WX} {σ : L2.St} {g g1 : Gh} {hm : MH} {H H1 : Hp} {r : Res α} {P : α → Gh → MH → Hp → Prop} (rl : Rel K g hm H) (e : Ext K g hm H g1 hm H1) (h : Post K W g hm σ H r P) : Post K W g1 hm σ H1 r P := by
  cases r with
  | ok m hm' => exact fun g' H' e2 => h g' H' (e.trans rl e2)
  | ex c m hm' => exact fun g' H' cls d e2 x => h g' H' cls d (e.trans rl e2) x
  | no => exact h

/-! ### {k: v, ..} -/
abbrev DM := Sl → MH → Res (List (Key × MV))
def nilD : DM := fun _ h => .ok [] h
def consD (fk fv : EM) (fs : DM) : DM := bindE fk fun k => bindE fv fun v => bindE fs fun r _ h => match keyM k with
  | some q => .ok ((q, v) :: r) h
  | none => .no
def dispE (f : DM) : EM := bindE f fun ks _ h => if ks.length ≤ 15 then .ok (.dic (mergeM [] ks)) h else .no
def rdD (K : Kf) (W : WX) (f : DM) (σ : L2.St) (H : Hp) (Q : List (V × V) → Hp → Prop) : Prop := Rdg K W σ H f fun ks g' _ H' => ∀ kvs, RKs K g' H' ks kvs → Q (kvs.map fun kv => (kV kv.1, kv.2)) H'
structure PD (X : Cx) (pos : Pos) (keys : List (Option Expr)) (vals : List Expr) (W : WX) (f : DM) : Prop where
  ex : ∃ trs, PPs X pos keys vals trs ∧ ∀ σ H Q, rdD X.K W f σ H Q → tPairs trs σ H Q
section
variable {K : Kf} {W : WX} {X : Cx} {pos : Pos} {a b c kx vx : Expr} {ks : List (Option Expr)} {vs : List Expr}
theorem sd_nil : PD X pos [] [] W nilD := ⟨[], pps_nil, fun σ H Q h => by
  obtain ⟨g, σm, hm, rl, R, p⟩ := h
  exact p g H (.refl rl) [] .nil⟩
theorem kV_of {g : Gh} {H : Hp} {m : MV} {v : V} {q : Key} (r : RV K g H m v) (h : keyM m = some q) : v = kV q := by
  cases r <;> first | (cases h; rfl) | cases h
theorem sd_cons {fk fv : EM} {fs : DM} (hk : PE X kx (rdE X.K W fk)) (hv : PE X vx (rdE X.K W fv)) (hr : PD X pos ks vs W fs) : PD X pos (some kx :: ks) (vx :: vs) W (consD fk fv fs) := by
  obtain ⟨trs, h1, h2⟩ := hr.ex
  refine ⟨_, pps_cons hk hv h1, fun σ H Q h => ?_⟩
  obtain ⟨g, σm, hm, rl, R, p⟩ := h
  refine ⟨g, σm, hm, rl, R, (Post.bind rl p).mono fun k g1 hm1 H1 e1 p1 v1 r1 => ?_⟩
  refine ⟨g1, σm, hm1, e1.rel, R.ext rl e1, (Post.bind e1.rel p1).mono fun v g2 hm2 H2 e2 p2 v2 r2 => ?_⟩
  refine h2 _ _ _ ⟨g2, σm, hm2, e2.rel, (R.ext rl e1).ext e1.rel e2, (Post.bind e2.rel p2).mono fun r g3 hm3 H3 e3 p3 kvs rk => ?_⟩
  have p3 : Post X.K W g3 hm3 σ H3 (match keyM k with
    | some q => .ok ((q, v) :: r) hm3
    | none => .no) fun ks g' _ H' => ∀ kvs, RKs X.K g' H' ks kvs → Q (kvs.map fun kv => (kV kv.1, kv.2)) H' := p3
  cases c : keyM k with
  | none => rw [c] at p3; exact p3.elim
  | some q =>
    rw [c] at p3
    rw [kV_of r1 c]
    exact p3 g3 H3 (.refl e3.rel) ((q, v2) :: kvs) (.cons (r2.up (e3.up e2.rel)) rk)
theorem se_disp {f : DM} (h : PD X pos ks vs W f) (hall : ks.all (·.isSome) = true) (hl : ks.length = vs.length) (h0 : ks ≠ []) (h15 : ks.length ≤ 15) : PE X (.Dict ks vs pos) (rdE X.K W (dispE f)) := by
  obtain ⟨trs, h1, h2⟩ := h.ex
  refine imp_e (pe_disp h1 hall hl h0 h15) fun σ H Q q => ?_
  obtain ⟨g, σm, hm, rl, R, p⟩ := q
  intro p0 hp0
  have e0 := Ext.lay (o := .dK []) rl hp0
  unfold dispE bindE at p
  refine h2 _ _ _ ⟨g, σm, hm, e0.rel, R.ext rl e0, ?_⟩
  cases c0 : f σm hm with
  | ex c m h' => rw [c0] at p; exact Post.from rl e0 (show Post X.K W g hm σ H (.ex c m h' : Res (List (Key × MV))) _ from p)
  | no => rw [c0] at p; exact p
  | ok ks hm2 =>
    rw [c0] at p
    intro g2 H2 e2 kvs rk
    have e02 := e0.trans rl e2
    have n0 : upd H p0 (.dK []) p0 ≠ none := by rw [upd_same]; intro z; cases z
    have nl0 : ¬ Live g hm p0 := rl.new_nl hp0
    have nf0 : ¬ g.F p0 := rl.new_nf hp0
    have d2 : H2 p0 = some (.dK []) := e2.keep _ _ upd_same nl0
    have nf2 : ¬ g2.F p0 := fun f => (e2.f2 p0 f).elim nf0 n0
    have nl2 : ¬ Live g2 hm2 p0 := fun l => nl0 (e2.live' e0.rel n0 l)
    have p2 : Post X.K W g hm σ H (if ks.length ≤ 15 then .ok (.dic (mergeM [] ks)) hm2 else .no) fun m g' _ H' => ∀ v, RV X.K g' H' m v → Q v H' := p
    by_cases c : ks.length ≤ 15
    · rw [if_pos c] at p2
      refine ⟨d2, kvs, rfl, by rw [← rk.length]; exact c, ?_⟩
      have ew := e02.wr (o := .dK (mergeK [] kvs)) hp0 nf2 nl2
      obtain ⟨ef, u⟩ := Ext.fzo ew hp0 (by rw [upd_same]; intro z; cases z) nl2
      exact p2 _ _ ef _ (.dic (.inr rfl) upd_same (((rk.merge .nil).up (Up.wr nf2)).up u))
    · rw [if_neg c] at p2; exact p2.elim
/-! d[k] -/
def dgetM : MH → MV → MV → Option MV := fun _ x y => match x, keyM y with
  | .dic ks, some k => valM ks k
  | _, _ => none
abbrev rDGet : R2 := fun x y H Q => ∃ a v, x = .ref a ∧ DGet H a y (some v) ∧ Q v H
theorem vp_dget : VP2 K rDGet dgetM := by
  intro g hm H x y vx vy m Q rl px py e k
  unfold dgetM at e
  split at e
  · rename_i ks q hq
    cases px with
    | of px =>
      cases px with
      | @dic a kvs _ f h rk =>
        obtain ⟨v, h1, h2⟩ := rk.val e
        have ey : vy = kV q := by
          cases py with
          | of py => exact kV_of py hq
          | own z ha rv nl => cases hq
        rw [ey]
        exact ⟨a, v, rfl, by rw [← h1]; exact DGet.k h, k g H v (.refl rl) h2⟩
  · cases e
theorem se_dget {fa fb : EM} (hu : X.A.units + 65 < cLine) (hs : NoSl b) (ha : PE X a (rdP X.K W fa)) (hb : PE X b (rdP X.K W fb)) : PE X (.Subscript a b pos) (rdE X.K W (bin2 dgetM fa fb)) :=
  imp_e (pe_dget (by omega) ha hb hs) fun σ H Q h => mid2 vp_dget σ H Q h

/-! ### a op b op c -/
theorem rd_chain {f f' : MH → MV → MV → Option MV} {r r' : R2} {fa fb fc : EM} (h1 : VP2 K r f) (h2 : VP2 K r' f') (σ : L2.St) (H : Hp) (Q : VK) (h : rdE K W (chainE f f' fa fb fc) σ H Q) : tChain r r' (rdP K W fa) (rdP K W fb) (rdP K W fc) σ H Q := by
  obtain ⟨g, σm, hm, rl, R, p⟩ := h
  refine ⟨g, σm, hm, rl, R, (Post.bind rl p).mono fun x g1 hm1 H1 e1 p1 vx px => ?_⟩
  refine ⟨g1, σm, hm1, e1.rel, R.ext rl e1, (Post.bind e1.rel p1).mono fun y g2 hm2 H2 e2 p2 vy py => ?_⟩
  have px := px.ext e1.rel e2
  have p2 : Post K W g2 hm2 σ H2 (bindR (optR (f hm2 x y) hm2) fun z h1 => match z with
    | .bl true => bindR (fc σm h1) fun w h2 => optR (f' h2 y w) h2
    | .bl false => .ok (.bl false) h1
    | _ => .no) fun m g' _ H' => ∀ v, RV K g' H' m v → Q v H' := p2
  cases c : f hm2 x y with
  | none => rw [c] at p2; exact p2.elim
  | some m =>
    rw [c] at p2
    refine h1 g2 hm2 H2 x y vx vy m _ e2.rel px py c fun g3 H3 v e3 rv => ?_
    have py := py.ext e2.rel e3
    cases m with
    | bl b =>
      cases rv
      refine ⟨b, rfl, ?_⟩
      cases b with
      | false => exact iteF (p2 g3 H3 e3 _ (.bl _))
      | true =>
        have p2 : Post K W g2 hm2 σ H2 (bindR (fc σm hm2) fun w h2 => optR (f' h2 y w) h2) fun m g' _ H' => ∀ v, RV K g' H' m v → Q v H' := p2
        refine iteT ⟨g3, σm, hm2, e3.rel, ((R.ext rl e1).ext e1.rel e2).ext e2.rel e3, (Post.bind e3.rel (Post.from e2.rel e3 p2)).mono fun w g4 hm4 H4 e4 p4 vw pw => ?_⟩
        have py := py.ext e3.rel e4
        have p4 : Post K W g4 hm4 σ H4 (optR (f' hm4 y w) hm4) fun m g' _ H' => ∀ v, RV K g' H' m v → Q v H' := p4
        cases c2 : f' hm4 y w with
        | none => rw [c2] at p4; exact p4.elim
        | some m2 =>
          rw [c2] at p4
          exact h2 g4 hm4 H4 y w vy vw m2 Q e4.rel py pw c2 fun g5 H5 v e5 rv => p4 g5 H5 e5 v rv
    | _ => exact False.elim p2
theorem se_chain {op op' : CmpOp} {r r' : R2} {f f' : MH → MV → MV → Option MV} {fa fb fc : EM} (ho : OpR X (compareOp op) r) (hv : VP2 X.K r f) (ho' : OpR X (compareOp op') r') (hv' : VP2 X.K r' f') (ha : PE X a (rdP X.K W fa)) (hb : PE X b (rdP X.K W fb)) (hc : PE X c (rdP X.K W fc))
    (hm : lastMarks [op, op'] [b, c] = false := by with_unfolding_all rfl) : PE X (.Compare a [op, op'] [b, c] pos) (rdE X.K W (chainE f f' fa fb fc)) := imp_e (pe_chain ho ho' ha hb hc hm) (rd_chain hv hv')
end
end Mi
end P_M15
section P_M16
set_option Elab.async false
set_option linter.all false
set_option maxRecDepth 100000
set_option maxHeartbeats 4000000
/-! M16: forms that serve several kinds of values; calls with keywords; blocks with their context -/
namespace Mi
open PySem PySem.Spec PyProof.Rows L2 TL

/-! ### x[i], a list, a tuple, a text, a dict -/
theorem pe_or {X : Cx} {e : Expr} {t t' : TE} (h : PE X e t) (h' : PE X e t') : PE X e fun σ H Q => t σ H Q ∨ t' σ H Q := ⟨fun pins s σ H Q I q => q.elim (h.run pins s σ H Q I) (h'.run pins s σ H Q I)⟩
theorem pi_or {X : Cx} {tg e : Expr} {t t' : TI} (h : PI X tg e t) (h' : PI X tg e t') : PI X tg e fun σ H Q => t σ H Q ∨ t' σ H Q := ⟨fun pins s σ H R I q => q.elim (h.run pins s σ H R I) (h'.run pins s σ H R I)⟩
def ixDM : MH → MV → MV → Option MV := fun hm x y => match x with
  | .dic _ => dgetM hm x y
  | _ => ixM hm x y
theorem ixD_or (fa fb : EM) (σ : Sl) (h : MH) : bin2 ixDM fa fb σ h = bin2 ixM fa fb σ h ∨ bin2 ixDM fa fb σ h = bin2 dgetM fa fb σ h := by
  unfold bin2 bindE
  cases c : fa σ h with
  | ok x h' =>
    cases x with
    | dic ks => exact .inr rfl
    | _ => exact .inl rfl
  | ex c v h' => exact .inl rfl
  | no => exact .inl rfl
section
variable {K : Kf} {W : WX} {X : Cx} {tg a b c e : Expr} {pos p2 p : Pos} {lo hi : Option Expr}
theorem se_at {fa fb : EM} (hu : X.A.units + 65 < cLine) (hs : PlainIx b) (hs' : NoSl b) (ha : PE X a (rdP X.K W fa)) (hb : PE X b (rdP X.K W fb)) : PE X (.Subscript a b pos) (rdE X.K W (bin2 ixDM fa fb)) :=
  imp_e (pe_or (se_ix (W := W) ix_seq vp_ix hs ha hb) (se_dget (W := W) hu hs' ha hb)) fun σ H Q h => by
    obtain ⟨g, σm, hm, rl, R, p⟩ := h
    rcases ixD_or fa fb σm hm with e | e
    · rw [e] at p
      exact .inl ⟨g, σm, hm, rl, R, p⟩
    · rw [e] at p
      exact .inr ⟨g, σm, hm, rl, R, p⟩

/-! ### a[i:j] of any kind, as a value -/
def slM (lo hi : Option Int) : MH → MV → Option MV := fun hm x => match x with
  | .str s => if s.length ≤ zl then some (.str (cutL s lo hi)) else none
  | .tup xs => if ¬ (HT.sIx xs.length 0 lo = 0 ∧ HT.sIx xs.length xs.length hi = xs.length) ∧ xs.length ≤ zl then some (.tup (cutL xs lo hi)) else none
  | x => (seqM hm x).map fun xs => .lst (cutL xs lo hi)
def slV (fe : EM) (fl fh : PM) : EM := bindE fe fun x => bindE fl fun lo => bindE fh fun hi => fun _ h => optR (slM lo hi h x) h
theorem se_slV {fe : EM} {fl fh : PM} (he : PE X e (rdP X.K W fe)) (hl : PO X lo (rdTO X.K W fl)) (hu : PO X hi (rdTO X.K W fh)) : PE X (.Subscript e (.Slice lo hi none p2) pos) (rdE X.K W (slV fe fl fh)) :=
  imp_e (pe_slice (sl_str.or (sl_tup.or sl_list)) he hl hu) fun σ H Q h => by
    obtain ⟨g, σm, hm, rl, R, p⟩ := h
    refine ⟨g, σm, hm, rl, R, (Post.bind rl p).mono fun x g1 hm1 H1 e1 p1 v px => ?_⟩
    refine ⟨g1, σm, hm1, e1.rel, R.ext rl e1, (Post.bind e1.rel p1).mono fun lo g2 hm2 H2 e2 p2 => ?_⟩
    refine ⟨g2, σm, hm2, e2.rel, (R.ext rl e1).ext e1.rel e2, (Post.bind e2.rel p2).mono fun hi g3 hm3 H3 e3 p3 => ?_⟩
    have px := (px.ext e1.rel e2).ext e2.rel e3
    have p3 : Post X.K W g3 hm3 σ H3 (optR (slM lo hi hm3 x) hm3) fun m g' _ H' => ∀ v, RV X.K g' H' m v → Q v H' := p3
    have lst : ∀ xs, seqM hm3 x = some xs → slM lo hi hm3 x = some (.lst (cutL xs lo hi)) → rSlS v lo hi H3 Q ∨ rSlT X.K v lo hi H3 Q ∨ rSlL X.K v lo hi H3 Q := fun xs c e => by
      rw [e] at p3
      obtain ⟨a, ws, rfl, h1, rs, z⟩ := px.seq e3.rel c
      refine .inr (.inr ⟨a, ws, rfl, h1, fun l hl => ?_⟩)
      have ex := Ext.fz (o := .lst (cutV ws lo hi)) e3.rel hl
      exact p3 _ _ ex _ (.lst (.inr rfl) upd_same (Nat.le_trans (cutL_length xs lo hi) z) ((rs.cut lo hi).up (ex.up e3.rel)))
    cases x with
    | str s =>
      by_cases c : s.length ≤ zl
      · have p3 : Post X.K W g3 hm3 σ H3 (optR (if s.length ≤ zl then some (.str (cutL s lo hi)) else none) hm3) fun m g' _ H' => ∀ v, RV X.K g' H' m v → Q v H' := p3
        rw [if_pos c] at p3
        refine .inl ⟨_, px.str_inv, by rw [str_len, zl_eq]; exact c, ?_⟩
        have e : cutS (toS s) lo hi = toS (cutL s lo hi) := by
          unfold cutS cutL
          rw [str_len]
        rw [e]
        exact p3 g3 H3 (.refl e3.rel) _ (.str _)
      · have p3 : Post X.K W g3 hm3 σ H3 (optR (if s.length ≤ zl then some (.str (cutL s lo hi)) else none) hm3) fun m g' _ H' => ∀ v, RV X.K g' H' m v → Q v H' := p3
        rw [if_neg c] at p3
        exact p3.elim
    | tup xs =>
      have p3 : Post X.K W g3 hm3 σ H3 (optR (if ¬ (HT.sIx xs.length 0 lo = 0 ∧ HT.sIx xs.length xs.length hi = xs.length) ∧ xs.length ≤ zl then some (.tup (cutL xs lo hi)) else none) hm3) fun m g' _ H' => ∀ v, RV X.K g' H' m v → Q v H' := p3
      by_cases c : ¬ (HT.sIx xs.length 0 lo = 0 ∧ HT.sIx xs.length xs.length hi = xs.length) ∧ xs.length ≤ zl
      · rw [if_pos c] at p3
        obtain ⟨a, ws, rfl, h1, rs⟩ := px.tup_inv
        refine .inr (.inl ⟨a, ws, rfl, h1, by rw [← rs.length]; exact c.1, fun l hl => ?_⟩)
        have ex := Ext.fz (o := .tup (cutV ws lo hi)) e3.rel hl
        exact p3 _ _ ex _ (.tup (.inr rfl) upd_same (by rw [zl_eq]; exact Nat.le_trans (cutL_length xs lo hi) c.2) ((rs.cut lo hi).up (ex.up e3.rel)))
      · rw [if_neg c] at p3
        exact p3.elim
    | lst xs => exact lst xs rfl rfl
    | scr xs => exact lst xs rfl rfl
    | ref n =>
      cases c : seqM hm3 (.ref n) with
      | none =>
        have e : slM lo hi hm3 (.ref n) = none := by show (seqM hm3 (.ref n)).map _ = none; rw [c]; rfl
        rw [e] at p3
        exact p3.elim
      | some xs => exact lst xs c (by show (seqM hm3 (.ref n)).map _ = _; rw [c]; rfl)
    | _ => exact False.elim p3

/-! ### what is walked: a list, a tuple, a text -/
def itemsM : MV → MH → Res (List MV) := fun m h => match m with
  | .lst xs => .ok xs h
  | .scr xs => .ok xs h
  | .tup xs => .ok xs h
  | .str s => .ok (s.map fun c => .str [c]) h
  | _ => .no
def itAny (f : EM) : OM := bindE f fun m _ h => itemsM m h
theorem it_str {S : Gh → MH → Hp → Prop} {s : List Nat} : ItOk K S (Its (toS s)) (s.map fun c => .str [c]) := fun g hm H rl _ i => by
  have hz : (toS s).cps.size = s.length := by simp
  refine ⟨fun m hm' => ?_, fun hi => ?_⟩
  · rw [List.getElem?_map] at hm'
    cases c : s[i]? with
    | none => rw [c] at hm'; cases hm'
    | some d =>
      rw [c] at hm'
      cases hm'
      have hi : i < s.length := (List.getElem?_eq_some_iff.mp c).1
      refine ⟨by show i < (toS s).cps.size; omega, fun x H' y => ?_⟩
      obtain ⟨rfl, c', h1, rfl⟩ := y
      have e : (toS s).cps[i]? = s[i]? := by simp
      rw [e, c] at h1
      cases h1
      exact ⟨g, .refl rl, .str [d]⟩
  · rw [List.length_map] at hi
    show (toS s).cps.size ≤ i
    omega
theorem si_str {f : EM} (he : PE X e (rdE X.K W f)) : PI X tg e (rdI X.K W (bindE f fun m _ h => match m with
    | .str s => .ok (s.map fun c => .str [c]) h
    | _ => .no)) := imp_i (pi_str he) fun σ H R h => by
  obtain ⟨g, σm, hm, rl, Rn, p⟩ := h
  refine ⟨g, σm, hm, rl, Rn, (Post.bind rl p).mono fun m g' hm' H' e q v rv => ?_⟩
  cases m with
  | str s =>
    cases rv
    exact ⟨_, rfl, q g' H' (.refl e.rel) _ it_str⟩
  | _ => exact False.elim q
theorem si_any {f : EM} (he : PE X e (rdE X.K W f)) : PI X tg e (rdI X.K W (itAny f)) :=
  imp_i (pi_or (si_list (W := W) he) (pi_or (si_tup (W := W) he) (si_str (W := W) he))) fun σ H R h => by
    obtain ⟨g, σm, hm, rl, Rn, p⟩ := h
    cases c : f σm hm with
    | ok m h' =>
      unfold itAny bindE at p
      rw [c] at p
      cases m with
      | tup xs => exact .inr (.inl ⟨g, σm, hm, rl, Rn, by unfold itTE bindE; rw [c]; exact p⟩)
      | str xs => exact .inr (.inr ⟨g, σm, hm, rl, Rn, by unfold bindE; rw [c]; exact p⟩)
      | lst xs => exact .inl ⟨g, σm, hm, rl, Rn, by unfold itE bindE; rw [c]; exact p⟩
      | scr xs => exact .inl ⟨g, σm, hm, rl, Rn, by unfold itE bindE; rw [c]; exact p⟩
      | _ => exact False.elim p
    | ex c1 m h' =>
      unfold itAny bindE at p
      rw [c] at p
      exact .inl ⟨g, σm, hm, rl, Rn, by unfold itE bindE; rw [c]; exact p⟩
    | no =>
      unfold itAny bindE at p
      rw [c] at p
      exact p.elim
end

/-! ### f(.., k = e, ..) -/
def sel {α : Type} (perm : List Nat) (l : List α) : List α := perm.filterMap (l[·]?)
theorem RVs.sel {K : Kf} {g : Gh} {H : Hp} {ms : List MV} {vs : List V} (r : RVs K g H ms vs) : ∀ perm : List Nat, RVs K g H (Mi.sel perm ms) (Mi.sel perm vs)
  | [] => .nil
  | i :: p => by
    have ih := RVs.sel r p
    unfold Mi.sel at ih ⊢
    rw [List.filterMap_cons, List.filterMap_cons]
    cases c : ms[i]? with
    | none =>
      have e : vs[i]? = none := by
        rw [List.getElem?_eq_none_iff] at c ⊢
        rw [← r.length]; exact c
      rw [e]
      exact ih
    | some m =>
      obtain ⟨v, h1, h2⟩ := r.get c
      rw [h1]
      exact .cons h2 ih
theorem Vals_sel {vs : List V} {us : List Value} (r : Vals vs us) : ∀ perm : List Nat, Vals (sel perm vs) (sel perm us)
  | [] => .nil
  | i :: p => by
    have ih := Vals_sel r p
    unfold sel at ih ⊢
    rw [List.filterMap_cons, List.filterMap_cons]
    cases c : vs[i]? with
    | none =>
      have e : us[i]? = none := by
        rw [List.getElem?_eq_none_iff] at c ⊢
        rw [← r.length]; exact c
      rw [e]
      exact ih
    | some v =>
      obtain ⟨u, h1, h2⟩ := r.get c
      rw [h1]
      exact .cons h2 ih
/-- the def x, called with n1 values and keywords ks -/
structure FnSK (P : Program) (w : World) (K : Kf) (mg : Str → Option Value) (base : Heap) (k : Nat) (x : Str) (n n1 : Nat) (ks : List Str) (perm : List Nat) (F : List MV → MH → Res MV) : Prop where
  ex : ∃ f fd ps, mg x = some (.ref f) ∧ PySem.W.keepIn K (.ref f) = true ∧ FnOk P w K mg base (L2.CX P w) k f fd ps (spM K n F) ∧
    ∀ (s : Shared) (us ws : List Value), K.In s.heap → us.length = n1 → ws.length = ks.length → BindsTo s fd ⟨us, ks.zip ws⟩ (ps.zip (sel perm (us ++ ws)))
def callKE (n n1 n2 : Nat) (F : List MV → MH → Res MV) (perm : List Nat) (fs gs : OM) : EM := bindE fs fun us => bindE gs fun ws _ h => if us.length = n1 ∧ ws.length = n2 ∧ (sel perm (us ++ ws)).length = n then F (sel perm (us ++ ws)) h else .no
theorem imp_k {X : Cx} {kws : List Keyword} {t t' : TA} (h : PK X kws t) (k : ∀ σ H Q, t' σ H Q → t σ H Q) : PK X kws t' := ⟨fun pos pins s σ H Q I q => h.run pos pins s σ H Q I (k σ H Q q)⟩
section
variable {X : Cx} {W : WX} {P : Program} {w : World} {K : Kf} {mg : Str → Option Value} {base : Heap} {N : List Str} {sc : Scope} {own : Str → Bool} {k j n n1 : Nat} {x : Str} {p pos kpos : Pos} {e : Expr} {es : List Expr} {kws : List Keyword} {nm : Option Str} {F : List MV → MH → Res MV} {ks : List Str} {perm : List Nat}
theorem sk_nil : PK X [] (rdA X.K W nilA) := imp_k pk_nil fun σ H Q h => by
  obtain ⟨g, σm, hm, rl, R, p⟩ := h
  exact p g H (.refl rl) [] .nil
theorem sk_cons {f : EM} {fs : OM} (ha : PE X e (rdE X.K W f)) (hr : PK X kws (rdA X.K W fs)) : PK X (⟨nm, e, kpos⟩ :: kws) (rdA X.K W (consA f fs)) := imp_k (pk_cons ha hr) rd_cons
theorem run_fnKS {pins : List (Addr × Obj)} {σ : L2.St} {H : Hp} {s : Shared} {Q : VK} {us ws : List Value} {vs zs : List V} (tk : Takes X W) (G : FnSK X.prog X.w X.K X.mg X.base j x n n1 ks perm F) {f : Addr} (hf : X.mg x = some (.ref f)) (hr : Room j X.A)
    (I : Inv X pins σ H s) (r : Vals vs us) (rz : Vals zs ws) (l1 : vs.length = n1) (l2 : zs.length = ks.length) (h : spM X.K n F (sel perm (vs ++ zs)) H Q (WE W σ)) : wpAny (model X.prog X.w) X.A (call (.ref f) us (ks.zip ws)) (EP X pins σ Q) X.xe s := by
  obtain ⟨f', fd, ps, a, b, c, hb⟩ := G.ex
  rw [hf] at a
  cases a
  refine wpAny_call (codeAny_mono (c.run X.A X.stack s H ⟨us, ks.zip ws⟩ (sel perm (us ++ ws)) (sel perm (vs ++ zs)) Q (WE W σ) hr I.env0 (hb s us ws I.kIn (r.length.symm.trans l1) (rz.length.symm.trans l2)) (Vals_sel (r.append rz) perm) h) fun r s' hq => ?_)
  cases r with
  | error e => exact passAt tk σ pins H s e s' I hq
  | ok fl =>
    cases fl with
    | ret u => exact I.after hq
    | next => exact False.elim hq
    | brk => exact False.elim hq
    | cont => exact False.elim hq
theorem rd_kcall {K : Kf} {ms zs : List MV} {vs ws : List V} {n2 : Nat} {g : Gh} {hm : MH} {H : Hp} {σ : L2.St} {Q : VK} (rl : Rel K g hm H) (rv : RVs K g H ms vs) (rz : RVs K g H zs ws)
    (q : Post K W g hm σ H (if ms.length = n1 ∧ zs.length = n2 ∧ (sel perm (ms ++ zs)).length = n then F (sel perm (ms ++ zs)) hm else .no) fun m g' _ H' => ∀ v, RV K g' H' m v → Q v H') : vs.length = n1 ∧ ws.length = n2 ∧ spM K n F (sel perm (vs ++ ws)) H Q (WE W σ) := by
  by_cases c : ms.length = n1 ∧ zs.length = n2 ∧ (sel perm (ms ++ zs)).length = n
  · rw [if_pos c] at q
    have rs := (rv.append rz).sel perm
    refine ⟨by rw [← rv.length]; exact c.1, by rw [← rz.length]; exact c.2.1, by rw [← rs.length]; exact c.2.2, g, hm, _, rl, rs, ?_⟩
    show Post K _ _ _ [] _ _ _
    cases r : F (sel perm (ms ++ zs)) hm with
    | ok m h2 => rw [r] at q; exact q
    | ex c1 m h2 => rw [r] at q; exact q
    | no => rw [r] at q; exact q
  · rw [if_neg c] at q
    exact q.elim
theorem Cn.callK0 {gs : OM} (J : Cn X P w K mg base N sc own k) (tk : Takes X W) (G : FnSK P w K mg base j x n 0 ks perm F) (hj : j ≤ k) (g : NmG X x) (hkw : PK X kws (rdA X.K W gs))
    (hall : (backToKw pos (keywordEach kws X.env)).all (·.1.isSome) = true := by rfl) (hks : (backToKw pos (keywordEach kws X.env)).filterMap (·.1) = ks := by rfl)
    (hpl : ((backTo pos (starEach [] X.env)).any (·.1) || (backToKw pos (keywordEach kws X.env)).any (·.1.isNone)) = false := by rfl) :
    PE X (.Call (.Name x p) [] kws pos) (rdE X.K W (callKE n 0 ks.length F perm nilA gs)) := by
  have room := J.room.mono hj
  obtain ⟨rfl, rfl, rfl, rfl, rfl, _, _, _, _, _, _⟩ := J
  have G' := G
  obtain ⟨f, fd, ps, a, b, c, hb⟩ := G.ex
  refine ⟨fun pins s σ H Q I h => ?_⟩
  obtain ⟨g0, σm, hm, rl, R, p⟩ := h
  refine wpAny_Call_Name_kw (ld_glob I g.gl a ?_ g.db)
  refine PySem.W.callWith_KW0 (h₀ := X.base) I.ok.mod.kin b hall (thn (hkw.run pos pins s σ H (fun zs H1 => zs.length = ks.length ∧ spM X.K n F (sel perm ([] ++ zs)) H1 Q (WE W σ)) I ?_) fun ws s2 ⟨zs, H2, I2, rz, l2, q2⟩ => ⟨I2.kIn, ?_⟩) hpl
  · exact ⟨g0, σm, hm, rl, R, (Post.bind rl p).mono fun ms g1 hm1 H1 e1 q vs rv => (rd_kcall (ms := []) (vs := []) e1.rel .nil rv q).2⟩
  · rw [hks]
    exact run_fnKS (us := []) (vs := []) tk G' a room I2 .nil rz rfl l2 q2
theorem Cn.callK {fs gs : OM} (J : Cn X P w K mg base N sc own k) (tk : Takes X W) (G : FnSK P w K mg base j x n n1 ks perm F) (hj : j ≤ k) (g : NmG X x) (ha : PA X (e :: es) (rdA X.K W fs)) (hkw : PK X kws (rdA X.K W gs))
    (hall : (backToKw pos (keywordEach kws X.env)).all (·.1.isSome) = true := by rfl) (hks : (backToKw pos (keywordEach kws X.env)).filterMap (·.1) = ks := by rfl)
    (he : starEach (e :: es) X.env = (false, eval e X.env) :: starEach es X.env := by rfl)
    (hpl : ((backTo pos (starEach (e :: es) X.env)).any (·.1) || (backToKw pos (keywordEach kws X.env)).any (·.1.isNone)) = false := by rfl) :
    PE X (.Call (.Name x p) (e :: es) kws pos) (rdE X.K W (callKE n n1 ks.length F perm fs gs)) := by
  have room := J.room.mono hj
  obtain ⟨rfl, rfl, rfl, rfl, rfl, _, _, _, _, _, _⟩ := J
  have G' := G
  obtain ⟨f, fd, ps, a, b, c, hb⟩ := G.ex
  refine ⟨fun pins s σ H Q I h => ?_⟩
  obtain ⟨g0, σm, hm, rl, R, p⟩ := h
  refine wpAny_Call_Name_kw (ld_glob I g.gl a ?_ g.db)
  refine PySem.W.callWith_KW (h₀ := X.base) I.ok.mod.kin b hall (thn (ha.run pos pins s σ H (fun vs H1 => rdA X.K W gs σ H1 fun zs H2 => vs.length = n1 ∧ zs.length = ks.length ∧ spM X.K n F (sel perm (vs ++ zs)) H2 Q (WE W σ)) I ?_) fun us s1 ⟨vs, H1, I1, r, q⟩ => ?_) hpl he
  · refine ⟨g0, σm, hm, rl, R, (Post.bind rl p).mono fun ms g1 hm1 H1 e1 q vs rv => ?_⟩
    exact ⟨g1, σm, hm1, e1.rel, R.ext rl e1, (Post.bind e1.rel q).mono fun zs g2 hm2 H2 e2 q2 ws rz => rd_kcall e2.rel (rv.up (e2.up e1.rel)) rz q2⟩
  · refine thn (hkw.run pos pins s1 σ H1 _ I1 q) fun ws s2 ⟨zs, H2, I2, rz, l1, l2, q2⟩ => ⟨I2.kIn, ?_⟩
    rw [hks]
    exact run_fnKS tk G' a room I2 r rz l1 l2 q2

/-! ### blocks, with their context -/
theorem Cn.compJ {elt tg iter : Expr} {ifs : List Expr} {scope : Scope} {vs : List (Str × Nat)} {pos : Pos} {fi : OM} {t : Tgt} {is : List Nat} {c : TM} {f : EM} (J : Cn X P w K mg base N sc own k) (hi : PI X tg iter (rdIP X.K W fi)) (ok : blkC N sc scope vs = true)
    (hg : ∀ (s : Shared) (H : Hp) (C : Addr) (cl : List (Str × Addr)) (fp : List Addr), Cn (X.blk s H scope (compEnvC scope cl C X.env) fp) P w K mg base N (relS scope sc) (fun x => scope.names.lookup x == some .cell) k → PG (X.blk s H scope (compEnvC scope cl C X.env) fp) tg (rdG X.K t is))
    (ht : ∀ (s : Shared) (H : Hp) (C : Addr) (cl : List (Str × Addr)) (fp : List Addr), Cn (X.blk s H scope (compEnvC scope cl C X.env) fp) P w K mg base N (relS scope sc) (fun x => scope.names.lookup x == some .cell) k → PTs (X.blk s H scope (compEnvC scope cl C X.env) fp) ifs (rdT X.K WNo c))
    (he : ∀ (s : Shared) (H : Hp) (C : Addr) (cl : List (Str × Addr)) (fp : List Addr), Cn (X.blk s H scope (compEnvC scope cl C X.env) fp) P w K mg base N (relS scope sc) (fun x => scope.names.lookup x == some .cell) k → PE (X.blk s H scope (compEnvC scope cl C X.env) fp) elt (rdE X.K WNo f)) (hsub : ∀ j ∈ is, j ∈ vs.map (·.2))
    (hs : ∀ x, foldedSetIterable iter X.env x = pure x := by intro _; rfl) : PE X (.ListComp elt [⟨tg, iter, ifs, 0⟩] scope pos) (rdO X.K W (compO (vs.map (·.2)) fi t c f)) :=
  J.comp hi ok (fun s H C cl fp => hg s H C cl fp (J.blk s H scope C cl fp)) (fun s H C cl fp => ht s H C cl fp (J.blk s H scope C cl fp)) (fun s H C cl fp => he s H C cl fp (J.blk s H scope C cl fp)) hsub hs
theorem Cn.setLcJ {i : Nat} {y : Str} {py : Pos} {elt tg iter : Expr} {ifs : List Expr} {scope : Scope} {vs : List (Str × Nat)} {pos spos : Pos} {fi : OM} {t : Tgt} {is : List Nat} {c : TM} {f : EM} (J : Cn X P w K mg base N sc own k) (n : NmA X y i) (hy : sc.names.lookup y = some .local)
    (hsw : swapsWith (.ListComp elt [⟨tg, iter, ifs, 0⟩] scope pos) (some (.Name y py)) spos.line (env0 sc) = pure true) (hi : PI X tg iter (rdIP X.K W fi)) (ok : blkC N sc scope vs = true)
    (hg : ∀ (s : Shared) (H : Hp) (C : Addr) (cl : List (Str × Addr)) (fp : List Addr), Cn (X.blk s H scope (compEnvC scope cl C X.env) fp) P w K mg base N (relS scope sc) (fun x => scope.names.lookup x == some .cell) k → PG (X.blk s H scope (compEnvC scope cl C X.env) fp) tg (rdG X.K t is))
    (ht : ∀ (s : Shared) (H : Hp) (C : Addr) (cl : List (Str × Addr)) (fp : List Addr), Cn (X.blk s H scope (compEnvC scope cl C X.env) fp) P w K mg base N (relS scope sc) (fun x => scope.names.lookup x == some .cell) k → PTs (X.blk s H scope (compEnvC scope cl C X.env) fp) ifs (rdT X.K WNo c))
    (he : ∀ (s : Shared) (H : Hp) (C : Addr) (cl : List (Str × Addr)) (fp : List Addr), Cn (X.blk s H scope (compEnvC scope cl C X.env) fp) P w K mg base N (relS scope sc) (fun x => scope.names.lookup x == some .cell) k → PE (X.blk s H scope (compEnvC scope cl C X.env) fp) elt (rdE X.K WNo f)) (hsub : ∀ j ∈ is, j ∈ vs.map (·.2))
    (hs : ∀ x, foldedSetIterable iter X.env x = pure x := by intro _; rfl) : PS X (.Assign [.Name y py] (.ListComp elt [⟨tg, iter, ifs, 0⟩] scope pos) spos) (rdS X.K W (setS i (wrapL (compO (vs.map (·.2)) fi t c f)))) :=
  J.setLc n hy hsw hi ok (fun s H C cl fp => hg s H C cl fp (J.blk s H scope C cl fp)) (fun s H C cl fp => ht s H C cl fp (J.blk s H scope C cl fp)) (fun s H C cl fp => he s H C cl fp (J.blk s H scope C cl fp)) hsub hs
end
end Mi
end P_M16
section P_M17
set_option Elab.async false
set_option linter.all false
set_option maxRecDepth 100000
set_option maxHeartbeats 4000000
/-! M17: the defs of a module, each by its body -/
namespace Mi
open PySem PySem.Spec PyProof.Rows L2

section
variable {X : Cx} {P : Program} {w : World} {K : Kf} {mg : Str → Option Value} {base : Heap} {N : List Str} {sc : Scope} {own : Str → Bool} {k : Nat}
theorem Cn.opEq (J : Cn X P w K mg base N sc own k) : OpR X (compareOp .Eq) (rEqD X.K) := op_eqD (by have := J.units; omega)
theorem Cn.opNe (J : Cn X P w K mg base N sc own k) : OpR X (compareOp .NotEq) (rNeD X.K) := op_neD (by have := J.units; omega)
theorem Cn.opIn (J : Cn X P w K mg base N sc own k) : OpR X (compareOp .In) (rInM X.K) := op_inM J.units
theorem Cn.opNotIn (J : Cn X P w K mg base N sc own k) : OpR X (compareOp .NotIn) (rNotInM X.K) := op_notInM J.units
/-- a module's constant: a tuple of ints -/
theorem Cn.tupc {W : WX} {x : Str} {vs : List He.Dv} {xs : List MV} {pos : Pos} (J : Cn X P w K mg base N sc own k) (g : chkG sc x = true) (hm : mg x = some (.ref (He.ga K x))) (h : He.tupB K x vs = true) (r : ∀ g H, RVs K g H xs (vs.map (He.Dv.v K))) : PE X (.Name x pos) (rdE X.K W (cE (.tup xs))) := by
  have n := J.g g
  have w : WrT K (He.ga K x) (vs.map (He.Dv.v K)) := by
    rcases He.tupB_ok h (fun _ => none) with (z | ⟨o, z⟩) | z
    · cases z
    · cases z
    · exact z
  refine se_glob n.gl (by rw [J.em]; exact hm) n.db (a := He.ga K x) (by rw [J.eK]; exact w) fun g H => ?_
  rw [J.eK]
  exact r g H
end
/-- a def as it stands, and what its body does -/
structure FnB (P : Program) (w : World) (K : Kf) (mg : Str → Option Value) (base : Heap) (k : Nat) (x : Str) (ps : List Str) (n : Nat) (d : He.DefD) (F : List MV → MH → Res MV) : Prop where
  ex : ∃ fd, mg x = some (.ref (He.ga K x)) ∧ FunD K d.name d.qual d.params d.body d.scope (d.dvs K) (d.kws K) (He.ga K x) fd ∧ FnOk P w K mg base (L2.CX P w) k (He.ga K x) fd ps (spM K n F)
section
variable {fa : List He.Fa} {fn : List He.DefD} {ex : Kf → Bool} {K : Kf} {mg : Str → Option Value} {P : Program} {w : World} {base : Heap} {d : He.DefD} {x : Str} {N ps : List Str} {k n : Nat} {F : List MV → MH → Res MV}
theorem Md.fb {b : SM} (M : Md fa fn ex K mg) (i : Nat) (hd : fn[i]? = some d) (hy : mg x = some (.ref (He.ga K x))) (hat : d.at_ = (x, none)) (S : FnScope N ps d.scope) (hn : ps.length = n)
    (hbody : ∀ (X : Cx), Cn X P w K mg base N d.scope (fun _ => true) k → PassesOwn (model X.prog X.w) X.A X.env X.xe → ∀ W, Takes X W → PSs X d.body (rdS X.K W b)) : FnB P w K mg base (k + 1) x ps n d (bodyF N.length n b) := by
  obtain ⟨fd, F⟩ := M.d.def_ i hd
  have e : He.fAd K d.at_ = He.ga K x := by rw [hat] <;> rfl
  rw [e] at F
  exact ⟨fd, hy, F, fn_ok F S hn N.length rfl fun X e1 e2 e3 e4 e5 e6 e7 e8 e9 e10 _ e12 W tk => hbody X ⟨e1, e2, e3, e4, e5, e6, e7, e8, fun x _ => e9 x, e10, S.nd⟩ e12 W tk⟩
theorem FnB.s {dms : List MV} (G : FnB P w K mg base k x ps n d F) (hb : ∀ fd, FunD K d.name d.qual d.params d.body d.scope (d.dvs K) (d.kws K) (He.ga K x) fd → BindD K fd ps dms) : FnS P w K mg base k x n dms F := by
  obtain ⟨fd, a, b, c⟩ := G.ex
  exact ⟨_, fd, ps, a, b.kp, c, hb fd b⟩
theorem FnB.kw {n1 : Nat} {ks : List Str} {perm : List Nat} (G : FnB P w K mg base k x ps n d F) (hd : d.dfl = []) (hk : d.kwd = [])
    (h : ∀ (kV doc pm : Value) (an : Option Addr) (cdv ct : Value) (us ws : List Value), us.length = n1 → ws.length = ks.length → bindArgs (PySem.W.fnOf d.name d.qual d.params d.body d.scope .none kV doc pm an cdv ct) ⟨us, ks.zip ws⟩ = pure (ps.zip (sel perm (us ++ ws)))) : FnSK P w K mg base k x n n1 ks perm F := by
  obtain ⟨fd, a, b, c⟩ := G.ex
  refine ⟨_, fd, ps, a, b.kp, c, fun s us ws _ h1 h2 => ?_⟩
  obtain ⟨oc, od, dV, kV, doc, pm, an, cdv, ct, osl, rfl, lk, hcd, hD, hK⟩ := b.ex
  rcases hD with ⟨_, rfl⟩ | ⟨e, _⟩
  · exact .of_eq (h kV doc pm an cdv ct us ws h1 h2)
  · exact absurd (show d.dfl.map _ = [] by rw [hd]; rfl) e
theorem Md.bind1 {y qual : Str} {params : Arguments} {body : List Stmt} {scope : Scope} {dvs : List V} {kws : List (Str × V)} {f : Addr} {fd : FuncData} {dms : List MV} (F : FunD K y qual params body scope dvs kws f fd) (n j : Nat) (hd : dvs ≠ []) (hn : n + (dvs.length - j) = ps.length) (hr : ∀ g H, RVs K g H dms (dvs.drop j))
    (h : ∀ (T : Addr) (kV doc pm : Value) (an : Option Addr) (cdv ct : Value) (us its : List Value), us.length = n → its.length = dvs.length →
      ∃ k, bindArgs (PySem.W.fnOf y qual params body scope (.ref T) kV doc pm an cdv ct) ⟨us, []⟩ = seqItems? (.ref T) >>= k ∧ k (some its.toArray) = pure (ps.zip (us ++ its.drop j))) : BindD K fd ps dms := by
  obtain ⟨ds, h1, h2⟩ := F.binds1 n j hd hn h
  exact ⟨ds, _, h2, h1, hr⟩
end
end Mi
end P_M17
section P_M18
set_option Elab.async false
set_option linter.all false
set_option maxRecDepth 100000
set_option maxHeartbeats 4000000
/-! M18: a law's end -/
namespace Mi
open PySem PySem.Spec PyProof.Rows L2

def hm0 : MH := ⟨0, fun _ => none⟩
theorem FunD_fd {K : Kf} {x qual x' qual' : Str} {params params' : Arguments} {body body' : List Stmt} {scope scope' : Scope} {dvs dvs' : List V} {kws kws' : List (Str × V)} {f : Addr} {fd fd' : FuncData} (a : FunD K x qual params body scope dvs kws f fd) (b : FunD K x' qual' params' body' scope' dvs' kws' f fd') : fd = fd' := by
  obtain ⟨_, _, _, _, _, _, _, _, _, _, e1, l1, _⟩ := a.ex
  obtain ⟨_, _, _, _, _, _, _, _, _, _, e2, l2, _⟩ := b.ex
  rw [l1] at l2
  injection l2 with l2
  injection l2 with _ _ l3 _
  injection l3
theorem CX_nil {P : Program} {w : World} {H : Hp} {s : Shared} {e : Value} {s' : Shared} : ¬ L2.CX P w [] H s (fun _ _ _ => False) e s' := by
  rintro ⟨_, _, _, _, _, _, _, _, _, _, _, _, z⟩
  exact z
/-- the script as a value -/
theorem script_rv {K : Kf} {H : Hp} {a : Addr} {ns : List Int} (ho : Only H) (hs : SqL K H a (ns.map V.int)) (hl : ns.length ≤ sizeLine) : ∃ g, Rel K g hm0 H ∧ RV K g H (.scr (ns.map .int)) (.ref a) := by
  refine ⟨⟨fun b => H b ≠ none, fun _ => 0, 0⟩, ⟨rfl, fun n h => absurd rfl h, fun n m h => absurd rfl h, fun n h => absurd rfl h, (fun n o h => nomatch h), fun b f => f⟩, .scr ?_ (by rw [List.length_map]; exact hl) RVs.ints⟩
  rcases hs with (h | ⟨o, h⟩) | h
  · rcases ho a with z | ⟨o, xs, z⟩
    · rw [h] at z; cases z
    · rw [h] at z; cases z
  · exact .inl ⟨(show H a ≠ none by rw [h]; intro z; cases z), o, h⟩
  · exact .inr h
theorem walk_mini {l : PySem.W.OpenLaw} {n k i gi : Nat} {q : Program} {loose : List Str} {XP : (Str → Option Value) → Heap → Prop} {d : DefRec} {fa : List He.Fa} {fn : List He.DefD} {ts : List He.Tab} {tf : List He.Defn} {ex : Kf → Bool} {dd : He.DefD} {F : List MV → MH → Res MV} {x y : Str}
    (hn : l.most = some n) (hn2 : n ≤ sizeLine) (hdf : d.params.defaults = []) (hr : Room k callerA) (hnm : d.name = y) (hi : fn[i]? = some dd) (hat : dd.at_ = (y, none)) (h0 : dd.dfl = []) (h00 : dd.kwd = []) (hgl : fa[gi]? = some (.glo y))
    (hb : ∀ (kV doc pm : Value) (an : Option Addr) (cdv ct : Value) (us : List Value), us.length = ([x] : List Str).length → bindArgs (PySem.W.fnOf dd.name dd.qual dd.params dd.body dd.scope .none kV doc pm an cdv ct) ⟨us, []⟩ = pure (([x] : List Str).zip us))
    (G : ∀ (w : World) (K : Kf) (mg : Str → Option Value) (base : Heap), Md fa fn ex K mg → FnB l.prog w K mg base k y [x] 1 dd F)
    (hF : ∀ ns : List Int, ns.length ≤ n → ∃ h', F [.scr (ns.map .int)] hm0 = .ok (.bl true) h') :
    PySem.W.WalkO q loose XP (He.hookX 4 fa fn ts tf ex).says l.row.toRowW d [] (fun f vs => PySem.call f vs) := by
  refine Att.attach_call hn hdf fun w s₀ s₁ mg mb f o pm cd doc a vs ns Gd Y ho hd hcd hmg hobj hints hlen hg => ?_
  obtain ⟨K, KX, c⟩ := Y
  have M : Md fa fn ex K mg := ⟨c.t.d, c.more, _, KX, Gd.T.g⟩
  obtain ⟨fd, FD⟩ := M.d.def_ i hi
  have hy := M.glo gi hgl
  rw [hnm, hy] at hmg
  cases hmg
  have e : He.fAd K dd.at_ = He.ga K y := by rw [hat] <;> rfl
  rw [e] at FD
  have FD' : FunD K dd.name dd.qual dd.params dd.body dd.scope [] (dd.kws K) (He.ga K y) fd := by
    have z : dd.dvs K = [] := by
      show dd.dfl.map _ = []
      rw [h0] <;> rfl
    rw [z] at FD
    exact FD
  refine law_call (K := K) (CX := L2.CX l.prog w) (k := k) (fd := fd) (x := x) (sp := spM K 1 F) KX Gd.T.g Gd.T.b Gd.T.builtins Gd.T.nolimit hg hobj hints (Nat.le_trans hlen hn2) hr (fun base _ _ => ?_) (fun s u => FD'.bindsA hb s [u] rfl) (fun H hO hS => ?_) fun H e s' => CX_nil
  · obtain ⟨fd', _, D', ok⟩ := (G w K mg base M).ex
    rw [FunD_fd FD D']
    exact ok
  · obtain ⟨g, rl, rv⟩ := script_rv hO hS (Nat.le_trans hlen hn2)
    refine ⟨rfl, g, hm0, [.scr (ns.map .int)], rl, .cons rv .nil, ?_⟩
    obtain ⟨h', e⟩ := hF ns hlen
    show Post K _ g hm0 [] H (F [.scr (ns.map .int)] hm0) _
    rw [e]
    intro g' H' ex v rv
    cases rv
    rfl
end Mi
end P_M18
section P_G84a
set_option Elab.async false
set_option linter.all false
set_option maxRecDepth 100000
set_option maxHeartbeats 0
/-! the defs: mirrors, derivations; printed by gen.py -/
namespace K84
open PySem PySem.Spec PyProof.Rows L2 Mi
-- levels: is_whole 1, is_count 2, is_tuple_of 1, is_fraction 2, fraction 1, plus 2, minus 2, times 2, is_less 1, total 3, is_point 3, check_point 4, turn_there 3, is_within 2, is_on_points 4, do_meet 5, walls_there 1, double_there 4, straight_at 4, meeting_at 6, fault_there 7, are_corners 4, is_room 8, check_room 9, is_passed 4, where_there 5, where_is 10, triple_of 1, sign_of 1, turn_of 2, is_same 1, compared 2, is_on_triples 3, walls_of 1, where_at 4, triples_of 2, check_sizes 3, pictured 1, room_picture 10, _law_purse 1, _law_mixed 1, _law_draw 2, _law_purses 2, _law_one_of 3, _law_shuffled 3, _law_exact 13, _law_copied 13, _law_common 1, _law_out 2, _law_det 1, _law_same 1, _law_less 1, _law_on 2, _law_sides 1, _law_where 3, _law_do_cross 3, _law_twice 2, _law_is_simple 4, _law_ways 1, _law_star 4, _law_comb 3, _law_grown 5, _law_room 6, _law_told_room 3, _law_picture 4, _law_right 14, _law_nook 1, law 15
section
variable {w : World} {K : Kf} {mg : Str → Option Value} {base : Heap}
theorem bt_abs : bootBuiltins "abs" = some (.builtin "abs") := by decide +kernel
theorem m_abs (M : Md fa fn ex K mg) : mg "abs" = none := M.free 69
theorem bt_all : bootBuiltins "all" = some (.builtin "all") := by decide +kernel
theorem m_all (M : Md fa fn ex K mg) : mg "all" = none := M.free 70
theorem bt_any : bootBuiltins "any" = some (.builtin "any") := by decide +kernel
theorem m_any (M : Md fa fn ex K mg) : mg "any" = none := M.free 71
theorem bt_bool : bootBuiltins "bool" = some (.type "bool") := by decide +kernel
theorem m_bool (M : Md fa fn ex K mg) : mg "bool" = none := M.free 72
theorem bt_dict : bootBuiltins "dict" = some (.type "dict") := by decide +kernel
theorem m_dict (M : Md fa fn ex K mg) : mg "dict" = none := M.free 73
theorem bt_int : bootBuiltins "int" = some (.type "int") := by decide +kernel
theorem m_int (M : Md fa fn ex K mg) : mg "int" = none := M.free 74
theorem bt_isinstance : bootBuiltins "isinstance" = some (.builtin "isinstance") := by decide +kernel
theorem m_isinstance (M : Md fa fn ex K mg) : mg "isinstance" = none := M.free 75
theorem bt_len : bootBuiltins "len" = some (.builtin "len") := by decide +kernel
theorem m_len (M : Md fa fn ex K mg) : mg "len" = none := M.free 76
theorem bt_list : bootBuiltins "list" = some (.type "list") := by decide +kernel
theorem m_list (M : Md fa fn ex K mg) : mg "list" = none := M.free 77
theorem bt_max : bootBuiltins "max" = some (.builtin "max") := by decide +kernel
theorem m_max (M : Md fa fn ex K mg) : mg "max" = none := M.free 78
theorem bt_min : bootBuiltins "min" = some (.builtin "min") := by decide +kernel
theorem m_min (M : Md fa fn ex K mg) : mg "min" = none := M.free 79
theorem bt_range : bootBuiltins "range" = some (.type "range") := by decide +kernel
theorem m_range (M : Md fa fn ex K mg) : mg "range" = none := M.free 80
theorem bt_sorted : bootBuiltins "sorted" = some (.builtin "sorted") := by decide +kernel
theorem m_sorted (M : Md fa fn ex K mg) : mg "sorted" = none := M.free 81
theorem bt_str : bootBuiltins "str" = some (.type "str") := by decide +kernel
theorem m_str (M : Md fa fn ex K mg) : mg "str" = none := M.free 82
theorem bt_sum : bootBuiltins "sum" = some (.builtin "sum") := by decide +kernel
theorem m_sum (M : Md fa fn ex K mg) : mg "sum" = none := M.free 83
theorem bt_tuple : bootBuiltins "tuple" = some (.type "tuple") := by decide +kernel
theorem m_tuple (M : Md fa fn ex K mg) : mg "tuple" = none := M.free 84
theorem bt_zip : bootBuiltins "zip" = some (.type "zip") := by decide +kernel
theorem m_zip (M : Md fa fn ex K mg) : mg "zip" = none := M.free 85
theorem m_gcd (M : Md fa fn ex K mg) : mg "gcd" = some (.builtin "math.gcd") := M.blt (He.ba M.e).1
abbrev c_NOUGHT : MV := .tup [.int (0), .int (1)]
theorem k_NOUGHT {X : Cx} {N : List Str} {sc : Scope} {own : Str → Bool} {k : Nat} {W : WX} {pos : Pos} (M : Md fa fn ex K mg) (J : Cn X R.prog w K mg base N sc own k) (h : chkG sc "NOUGHT" = true) : PE X (.Name "NOUGHT" pos) (rdE X.K W (cE c_NOUGHT)) := J.tupc h (M.glo 86) (He.ba (He.ba M.e).2).1 fun _ _ => (.cons (.int 0) (.cons (.int 1) .nil))
def b_is_whole : SM := (retS (andE (un1 (isiM .int) (peekE 0)) (un1 notM (un1 (isiM .bool) (peekE 0)))))
def F_is_whole : List MV → MH → Res MV := bodyF 1 1 b_is_whole
theorem fb_is_whole (M : Md fa fn ex K mg) : FnB R.prog w K mg base 1 "is_whole" ["value"] 1 d_is_whole F_is_whole := by
  refine M.fb (N := ["value"]) (ps := ["value"]) 0 (d := d_is_whole) rfl (M.glo 0) rfl ⟨rfl, rfl, rfl, by decide +kernel, rfl, by decide +kernel, by decide +kernel⟩ rfl fun X J hp W tk => ?_
  have v_value : NmV _ "value" 0 := J.v (by decide +kernel)
  have b_isinstance : NmB _ "isinstance" (.builtin "isinstance") := J.b (m_isinstance M) bt_isinstance (by decide +kernel)
  have b_int : NmB _ "int" (.type "int") := J.b (m_int M) bt_int (by decide +kernel)
  have b_bool : NmB _ "bool" (.type "bool") := J.b (m_bool M) bt_bool (by decide +kernel)
  exact (ss_one (ss_ret (se_and (se_isi (b := .int) b_isinstance b_int (by decide) v_value.peek) (se_one (se_not (se_isi (b := .bool) b_isinstance b_bool (by decide) v_value.peek))))))
theorem f_is_whole (M : Md fa fn ex K mg) : FnS R.prog w K mg base 1 "is_whole" 1 [] F_is_whole := (fb_is_whole M).s (fun fd F => Md.bindN F fun _ _ _ _ _ _ us hl => match us, hl with | [_], _ => rfl)
def b_is_count : SM := (retS (andE (callE (callN 1 F_is_whole) [] (consA (varE 0) nilA)) (bin2 geM (peekE 0) (callB maxM (consA (peekE 1) (consA (cE (.int 0)) nilA))))))
def F_is_count : List MV → MH → Res MV := bodyF 2 2 b_is_count
theorem fb_is_count (M : Md fa fn ex K mg) : FnB R.prog w K mg base 2 "is_count" ["value", "least"] 2 d_is_count F_is_count := by
  refine M.fb (N := ["value", "least"]) (ps := ["value", "least"]) 1 (d := d_is_count) rfl (M.glo 1) rfl ⟨rfl, rfl, rfl, by decide +kernel, rfl, by decide +kernel, by decide +kernel⟩ rfl fun X J hp W tk => ?_
  have v_value : NmV _ "value" 0 := J.v (by decide +kernel)
  have g_is_whole : NmG _ "is_whole" := J.g (by decide +kernel)
  have v_least : NmV _ "least" 1 := J.v (by decide +kernel)
  have b_max : NmB _ "max" (.builtin "max") := J.b (m_max M) bt_max (by decide +kernel)
  exact (ss_one (ss_ret (se_and (J.call tk (f_is_whole M) (by decide) g_is_whole (sa_cons v_value.var sa_nil)) (se_one (se_cmp op_geM vp_ge (nomark _) v_value.peek (toP (se_callB (cr_maxM J.calm) vp_max b_max (spa_cons v_least.peek (spa_cons (toP se_int) spa_nil)))))))))
theorem f_is_count (M : Md fa fn ex K mg) : FnS R.prog w K mg base 2 "is_count" 2 [] F_is_count := (fb_is_count M).s (fun fd F => Md.bind1 F 2 1 (List.cons_ne_nil _ _) rfl (fun _ _ => .nil) fun _ _ _ _ _ _ _ us its hl hi => match us, its, hl, hi with | [_, _], [_], _, _ => ⟨_, rfl, rfl⟩)
theorem f_is_count_1 (M : Md fa fn ex K mg) : FnS R.prog w K mg base 2 "is_count" 2 [.int (0)] F_is_count := (fb_is_count M).s (fun fd F => Md.bind1 F 1 0 (List.cons_ne_nil _ _) rfl (fun _ _ => (.cons (.int (0)) .nil)) fun _ _ _ _ _ _ _ us its hl hi => match us, its, hl, hi with | [_], [_], _, _ => ⟨_, rfl, rfl⟩)
def b_is_tuple_of : SM := (retS (andE (un1 (isiM .tuple) (peekE 0)) (bin2 eqM (callB lenM (consA (peekE 0) nilA)) (peekE 1))))
def F_is_tuple_of : List MV → MH → Res MV := bodyF 2 2 b_is_tuple_of
theorem fb_is_tuple_of (M : Md fa fn ex K mg) : FnB R.prog w K mg base 1 "is_tuple_of" ["value", "size"] 2 d_is_tuple_of F_is_tuple_of := by
  refine M.fb (N := ["value", "size"]) (ps := ["value", "size"]) 2 (d := d_is_tuple_of) rfl (M.glo 2) rfl ⟨rfl, rfl, rfl, by decide +kernel, rfl, by decide +kernel, by decide +kernel⟩ rfl fun X J hp W tk => ?_
  have v_value : NmV _ "value" 0 := J.v (by decide +kernel)
  have b_isinstance : NmB _ "isinstance" (.builtin "isinstance") := J.b (m_isinstance M) bt_isinstance (by decide +kernel)
  have b_tuple : NmB _ "tuple" (.type "tuple") := J.b (m_tuple M) bt_tuple (by decide +kernel)
  have b_len : NmB _ "len" (.builtin "len") := J.b (m_len M) bt_len (by decide +kernel)
  have v_size : NmV _ "size" 1 := J.v (by decide +kernel)
  exact (ss_one (ss_ret (se_and (se_isi (b := .tuple) b_isinstance b_tuple (by decide) v_value.peek) (se_one (se_cmp J.opEq vp_eq (nomark _) (toP (se_callB call_len vp_len b_len (spa_cons v_value.peek spa_nil))) v_size.peek)))))
theorem f_is_tuple_of (M : Md fa fn ex K mg) : FnS R.prog w K mg base 1 "is_tuple_of" 2 [] F_is_tuple_of := (fb_is_tuple_of M).s (fun fd F => Md.bindN F fun _ _ _ _ _ _ us hl => match us, hl with | [_, _], _ => rfl)
def b_is_fraction : SM := (seqS (ifS (orT (notT (tstE (callE (callN 2 F_is_tuple_of) [] (consA (varE 0) (consA (cE (.int 2)) nilA))))) (orT (notT (tstE (callE (callN 1 F_is_whole) [] (consA (bin2 ixDM (peekE 0) (cE (.int 0))) nilA)))) (orT (notT (tstE (callE (callN 1 F_is_whole) [] (consA (bin2 ixDM (peekE 0) (cE (.int 1))) nilA)))) (tstE (bin2 ltM (bin2 ixDM (peekE 0) (cE (.int 1))) (cE (.int 1))))))) (retS (cE (.bl false))) nextS) (retS (bin2 eqM (callB gcdM (consA (bin2 ixDM (peekE 0) (cE (.int 0))) (consA (bin2 ixDM (peekE 0) (cE (.int 1))) nilA))) (cE (.int 1)))))
def F_is_fraction : List MV → MH → Res MV := bodyF 1 1 b_is_fraction
theorem fb_is_fraction (M : Md fa fn ex K mg) : FnB R.prog w K mg base 2 "is_fraction" ["value"] 1 d_is_fraction F_is_fraction := by
  refine M.fb (N := ["value"]) (ps := ["value"]) 7 (d := d_is_fraction) rfl (M.glo 3) rfl ⟨rfl, rfl, rfl, by decide +kernel, rfl, by decide +kernel, by decide +kernel⟩ rfl fun X J hp W tk => ?_
  have v_value : NmV _ "value" 0 := J.v (by decide +kernel)
  have g_is_tuple_of : NmG _ "is_tuple_of" := J.g (by decide +kernel)
  have g_is_whole : NmG _ "is_whole" := J.g (by decide +kernel)
  have n_gcd : NmF _ "gcd" "math.gcd" := J.f (m_gcd M) (by decide +kernel)
  exact (ss_cons (ss_if (sw_or (st_not (st_val (J.call tk (f_is_tuple_of M) (by decide) g_is_tuple_of (sa_cons v_value.var (sa_cons se_int sa_nil))))) (sw_or (st_not (st_val (J.call tk (f_is_whole M) (by decide) g_is_whole (sa_cons (se_at J.units (fun _ _ => rfl) (fun _ _ => rfl) v_value.peek (toP se_int)) sa_nil)))) (sw_or (st_not (st_val (J.call tk (f_is_whole M) (by decide) g_is_whole (sa_cons (se_at J.units (fun _ _ => rfl) (fun _ _ => rfl) v_value.peek (toP se_int)) sa_nil)))) (sw_or1 (st_cmp op_ltM vp_lt (nomark _) (toP (se_at J.units (fun _ _ => rfl) (fun _ _ => rfl) v_value.peek (toP se_int))) (toP se_int)))))).pt (ss_one (ss_ret se_bl)) ss_nil) (ss_one (ss_ret (se_cmp J.opEq vp_eq (nomark _) (toP (se_gcd n_gcd (spa_cons (toP (se_at J.units (fun _ _ => rfl) (fun _ _ => rfl) v_value.peek (toP se_int))) (spa_cons (toP (se_at J.units (fun _ _ => rfl) (fun _ _ => rfl) v_value.peek (toP se_int))) spa_nil)))) (toP se_int)))))
theorem f_is_fraction (M : Md fa fn ex K mg) : FnS R.prog w K mg base 2 "is_fraction" 1 [] F_is_fraction := (fb_is_fraction M).s (fun fd F => Md.bindN F fun _ _ _ _ _ _ us hl => match us, hl with | [_], _ => rfl)
def b_fraction : SM := (seqS (setS 2 (ifE (tstE (bin2 gtM (peekE 1) (cE (.int 0)))) (callB gcdM (consA (peekE 0) (consA (peekE 1) nilA))) (bin2 subM (cE (.int 0)) (callB gcdM (consA (peekE 0) (consA (peekE 1) nilA)))))) (retS (tupE (consA (bin2 divM (peekE 0) (peekE 2)) (consA (bin2 divM (peekE 1) (peekE 2)) nilA)))))
def F_fraction : List MV → MH → Res MV := bodyF 3 2 b_fraction
theorem fb_fraction (M : Md fa fn ex K mg) : FnB R.prog w K mg base 1 "fraction" ["above", "below"] 2 d_fraction F_fraction := by
  refine M.fb (N := ["above", "below", "many"]) (ps := ["above", "below"]) 8 (d := d_fraction) rfl (M.glo 4) rfl ⟨rfl, rfl, rfl, by decide +kernel, rfl, by decide +kernel, by decide +kernel⟩ rfl fun X J hp W tk => ?_
  have v_below : NmV _ "below" 1 := J.v (by decide +kernel)
  have v_above : NmV _ "above" 0 := J.v (by decide +kernel)
  have n_gcd : NmF _ "gcd" "math.gcd" := J.f (m_gcd M) (by decide +kernel)
  have a_many : NmA _ "many" 2 := J.a (by decide +kernel)
  have v_many : NmV _ "many" 2 := J.v (by decide +kernel)
  exact (ss_cons (a_many.set (se_if (st_cmp op_gtM vp_gt (nomark _) v_below.peek (toP se_int)) (se_gcd n_gcd (spa_cons v_above.peek (spa_cons v_below.peek spa_nil))) (se_bin op_subM vp_sub (toP se_int) (toP (se_gcd n_gcd (spa_cons v_above.peek (spa_cons v_below.peek spa_nil))))))) (ss_one (ss_ret (se_tup (sa_cons (se_bin op_fdivG vp_div v_above.peek v_many.peek) (sa_cons (se_bin op_fdivG vp_div v_below.peek v_many.peek) sa_nil))))))
theorem f_fraction (M : Md fa fn ex K mg) : FnS R.prog w K mg base 1 "fraction" 2 [] F_fraction := (fb_fraction M).s (fun fd F => Md.bindN F fun _ _ _ _ _ _ us hl => match us, hl with | [_, _], _ => rfl)
def b_plus : SM := (retS (callE (callN 2 F_fraction) [] (consA (bin2 addM (bin2 mulM (bin2 ixDM (peekE 0) (cE (.int 0))) (bin2 ixDM (peekE 1) (cE (.int 1)))) (bin2 mulM (bin2 ixDM (peekE 1) (cE (.int 0))) (bin2 ixDM (peekE 0) (cE (.int 1))))) (consA (bin2 mulM (bin2 ixDM (peekE 0) (cE (.int 1))) (bin2 ixDM (peekE 1) (cE (.int 1)))) nilA))))
def F_plus : List MV → MH → Res MV := bodyF 2 2 b_plus
theorem fb_plus (M : Md fa fn ex K mg) : FnB R.prog w K mg base 2 "plus" ["one", "other"] 2 d_plus F_plus := by
  refine M.fb (N := ["one", "other"]) (ps := ["one", "other"]) 9 (d := d_plus) rfl (M.glo 5) rfl ⟨rfl, rfl, rfl, by decide +kernel, rfl, by decide +kernel, by decide +kernel⟩ rfl fun X J hp W tk => ?_
  have v_one : NmV _ "one" 0 := J.v (by decide +kernel)
  have v_other : NmV _ "other" 1 := J.v (by decide +kernel)
  have g_fraction : NmG _ "fraction" := J.g (by decide +kernel)
  exact (ss_one (ss_ret (J.call tk (f_fraction M) (by decide) g_fraction (sa_cons (se_bin op_addM vp_add (toP (se_bin op_mulM vp_mul (toP (se_at J.units (fun _ _ => rfl) (fun _ _ => rfl) v_one.peek (toP se_int))) (toP (se_at J.units (fun _ _ => rfl) (fun _ _ => rfl) v_other.peek (toP se_int))))) (toP (se_bin op_mulM vp_mul (toP (se_at J.units (fun _ _ => rfl) (fun _ _ => rfl) v_other.peek (toP se_int))) (toP (se_at J.units (fun _ _ => rfl) (fun _ _ => rfl) v_one.peek (toP se_int)))))) (sa_cons (se_bin op_mulM vp_mul (toP (se_at J.units (fun _ _ => rfl) (fun _ _ => rfl) v_one.peek (toP se_int))) (toP (se_at J.units (fun _ _ => rfl) (fun _ _ => rfl) v_other.peek (toP se_int)))) sa_nil)))))
theorem f_plus (M : Md fa fn ex K mg) : FnS R.prog w K mg base 2 "plus" 2 [] F_plus := (fb_plus M).s (fun fd F => Md.bindN F fun _ _ _ _ _ _ us hl => match us, hl with | [_, _], _ => rfl)
def b_minus : SM := (retS (callE (callN 2 F_fraction) [] (consA (bin2 subM (bin2 mulM (bin2 ixDM (peekE 0) (cE (.int 0))) (bin2 ixDM (peekE 1) (cE (.int 1)))) (bin2 mulM (bin2 ixDM (peekE 1) (cE (.int 0))) (bin2 ixDM (peekE 0) (cE (.int 1))))) (consA (bin2 mulM (bin2 ixDM (peekE 0) (cE (.int 1))) (bin2 ixDM (peekE 1) (cE (.int 1)))) nilA))))
def F_minus : List MV → MH → Res MV := bodyF 2 2 b_minus
theorem fb_minus (M : Md fa fn ex K mg) : FnB R.prog w K mg base 2 "minus" ["one", "other"] 2 d_minus F_minus := by
  refine M.fb (N := ["one", "other"]) (ps := ["one", "other"]) 10 (d := d_minus) rfl (M.glo 6) rfl ⟨rfl, rfl, rfl, by decide +kernel, rfl, by decide +kernel, by decide +kernel⟩ rfl fun X J hp W tk => ?_
  have v_one : NmV _ "one" 0 := J.v (by decide +kernel)
  have v_other : NmV _ "other" 1 := J.v (by decide +kernel)
  have g_fraction : NmG _ "fraction" := J.g (by decide +kernel)
  exact (ss_one (ss_ret (J.call tk (f_fraction M) (by decide) g_fraction (sa_cons (se_bin op_subM vp_sub (toP (se_bin op_mulM vp_mul (toP (se_at J.units (fun _ _ => rfl) (fun _ _ => rfl) v_one.peek (toP se_int))) (toP (se_at J.units (fun _ _ => rfl) (fun _ _ => rfl) v_other.peek (toP se_int))))) (toP (se_bin op_mulM vp_mul (toP (se_at J.units (fun _ _ => rfl) (fun _ _ => rfl) v_other.peek (toP se_int))) (toP (se_at J.units (fun _ _ => rfl) (fun _ _ => rfl) v_one.peek (toP se_int)))))) (sa_cons (se_bin op_mulM vp_mul (toP (se_at J.units (fun _ _ => rfl) (fun _ _ => rfl) v_one.peek (toP se_int))) (toP (se_at J.units (fun _ _ => rfl) (fun _ _ => rfl) v_other.peek (toP se_int)))) sa_nil)))))
theorem f_minus (M : Md fa fn ex K mg) : FnS R.prog w K mg base 2 "minus" 2 [] F_minus := (fb_minus M).s (fun fd F => Md.bindN F fun _ _ _ _ _ _ us hl => match us, hl with | [_, _], _ => rfl)
def b_times : SM := (retS (callE (callN 2 F_fraction) [] (consA (bin2 mulM (bin2 ixDM (peekE 0) (cE (.int 0))) (bin2 ixDM (peekE 1) (cE (.int 0)))) (consA (bin2 mulM (bin2 ixDM (peekE 0) (cE (.int 1))) (bin2 ixDM (peekE 1) (cE (.int 1)))) nilA))))
def F_times : List MV → MH → Res MV := bodyF 2 2 b_times
theorem fb_times (M : Md fa fn ex K mg) : FnB R.prog w K mg base 2 "times" ["one", "other"] 2 d_times F_times := by
  refine M.fb (N := ["one", "other"]) (ps := ["one", "other"]) 11 (d := d_times) rfl (M.glo 7) rfl ⟨rfl, rfl, rfl, by decide +kernel, rfl, by decide +kernel, by decide +kernel⟩ rfl fun X J hp W tk => ?_
  have v_one : NmV _ "one" 0 := J.v (by decide +kernel)
  have v_other : NmV _ "other" 1 := J.v (by decide +kernel)
  have g_fraction : NmG _ "fraction" := J.g (by decide +kernel)
  exact (ss_one (ss_ret (J.call tk (f_fraction M) (by decide) g_fraction (sa_cons (se_bin op_mulM vp_mul (toP (se_at J.units (fun _ _ => rfl) (fun _ _ => rfl) v_one.peek (toP se_int))) (toP (se_at J.units (fun _ _ => rfl) (fun _ _ => rfl) v_other.peek (toP se_int)))) (sa_cons (se_bin op_mulM vp_mul (toP (se_at J.units (fun _ _ => rfl) (fun _ _ => rfl) v_one.peek (toP se_int))) (toP (se_at J.units (fun _ _ => rfl) (fun _ _ => rfl) v_other.peek (toP se_int)))) sa_nil)))))
theorem f_times (M : Md fa fn ex K mg) : FnS R.prog w K mg base 2 "times" 2 [] F_times := (fb_times M).s (fun fd F => Md.bindN F fun _ _ _ _ _ _ us hl => match us, hl with | [_, _], _ => rfl)
def b_is_less : SM := (retS (bin2 ltM (bin2 mulM (bin2 ixDM (peekE 0) (cE (.int 0))) (bin2 ixDM (peekE 1) (cE (.int 1)))) (bin2 mulM (bin2 ixDM (peekE 1) (cE (.int 0))) (bin2 ixDM (peekE 0) (cE (.int 1))))))
def F_is_less : List MV → MH → Res MV := bodyF 2 2 b_is_less
theorem fb_is_less (M : Md fa fn ex K mg) : FnB R.prog w K mg base 1 "is_less" ["one", "other"] 2 d_is_less F_is_less := by
  refine M.fb (N := ["one", "other"]) (ps := ["one", "other"]) 12 (d := d_is_less) rfl (M.glo 8) rfl ⟨rfl, rfl, rfl, by decide +kernel, rfl, by decide +kernel, by decide +kernel⟩ rfl fun X J hp W tk => ?_
  have v_one : NmV _ "one" 0 := J.v (by decide +kernel)
  have v_other : NmV _ "other" 1 := J.v (by decide +kernel)
  exact (ss_one (ss_ret (se_cmp op_ltM vp_lt (nomark _) (toP (se_bin op_mulM vp_mul (toP (se_at J.units (fun _ _ => rfl) (fun _ _ => rfl) v_one.peek (toP se_int))) (toP (se_at J.units (fun _ _ => rfl) (fun _ _ => rfl) v_other.peek (toP se_int))))) (toP (se_bin op_mulM vp_mul (toP (se_at J.units (fun _ _ => rfl) (fun _ _ => rfl) v_other.peek (toP se_int))) (toP (se_at J.units (fun _ _ => rfl) (fun _ _ => rfl) v_one.peek (toP se_int))))))))
theorem f_is_less (M : Md fa fn ex K mg) : FnS R.prog w K mg base 1 "is_less" 2 [] F_is_less := (fb_is_less M).s (fun fd F => Md.bindN F fun _ _ _ _ _ _ us hl => match us, hl with | [_, _], _ => rfl)
def b_total : SM := (seqS (setS 1 (cE c_NOUGHT)) (seqS (forS (nameT 2) (itAny (varE 0)) (setS 1 (callE (callN 2 F_plus) [] (consA (varE 1) (consA (varE 2) nilA))))) (retS (varE 1))))
def F_total : List MV → MH → Res MV := bodyF 3 1 b_total
theorem fb_total (M : Md fa fn ex K mg) : FnB R.prog w K mg base 3 "total" ["fractions"] 1 d_total F_total := by
  refine M.fb (N := ["fractions", "found", "one"]) (ps := ["fractions"]) 13 (d := d_total) rfl (M.glo 9) rfl ⟨rfl, rfl, rfl, by decide +kernel, rfl, by decide +kernel, by decide +kernel⟩ rfl fun X J hp W tk => ?_
  have a_found : NmA _ "found" 1 := J.a (by decide +kernel)
  have v_fractions : NmV _ "fractions" 0 := J.v (by decide +kernel)
  have a_one : NmA _ "one" 2 := J.a (by decide +kernel)
  have v_one : NmV _ "one" 2 := J.v (by decide +kernel)
  have v_found : NmV _ "found" 1 := J.v (by decide +kernel)
  have g_plus : NmG _ "plus" := J.g (by decide +kernel)
  exact (ss_cons (a_found.set (k_NOUGHT M J (by decide +kernel))) (ss_cons (ss_for hp J.calm (si_any v_fractions.var) a_one.tg (ss_one (a_found.set (J.call tk (f_plus M) (by decide) g_plus (sa_cons v_found.var (sa_cons v_one.var sa_nil)))))) (ss_one (ss_ret v_found.var))))
theorem f_total (M : Md fa fn ex K mg) : FnS R.prog w K mg base 3 "total" 1 [] F_total := (fb_total M).s (fun fd F => Md.bindN F fun _ _ _ _ _ _ us hl => match us, hl with | [_], _ => rfl)
def b_is_point : SM := (retS (andE (callE (callN 2 F_is_tuple_of) [] (consA (varE 0) (consA (cE (.int 2)) nilA))) (andE (callE (callN 1 F_is_fraction) [] (consA (bin2 ixDM (peekE 0) (cE (.int 0))) nilA)) (callE (callN 1 F_is_fraction) [] (consA (bin2 ixDM (peekE 0) (cE (.int 1))) nilA)))))
def F_is_point : List MV → MH → Res MV := bodyF 1 1 b_is_point
theorem fb_is_point (M : Md fa fn ex K mg) : FnB R.prog w K mg base 3 "is_point" ["value"] 1 d_is_point F_is_point := by
  refine M.fb (N := ["value"]) (ps := ["value"]) 14 (d := d_is_point) rfl (M.glo 10) rfl ⟨rfl, rfl, rfl, by decide +kernel, rfl, by decide +kernel, by decide +kernel⟩ rfl fun X J hp W tk => ?_
  have v_value : NmV _ "value" 0 := J.v (by decide +kernel)
  have g_is_tuple_of : NmG _ "is_tuple_of" := J.g (by decide +kernel)
  have g_is_fraction : NmG _ "is_fraction" := J.g (by decide +kernel)
  exact (ss_one (ss_ret (se_and (J.call tk (f_is_tuple_of M) (by decide) g_is_tuple_of (sa_cons v_value.var (sa_cons se_int sa_nil))) (se_and (J.call tk (f_is_fraction M) (by decide) g_is_fraction (sa_cons (se_at J.units (fun _ _ => rfl) (fun _ _ => rfl) v_value.peek (toP se_int)) sa_nil)) (se_one (J.call tk (f_is_fraction M) (by decide) g_is_fraction (sa_cons (se_at J.units (fun _ _ => rfl) (fun _ _ => rfl) v_value.peek (toP se_int)) sa_nil)))))))
theorem f_is_point (M : Md fa fn ex K mg) : FnS R.prog w K mg base 3 "is_point" 1 [] F_is_point := (fb_is_point M).s (fun fd F => Md.bindN F fun _ _ _ _ _ _ us hl => match us, hl with | [_], _ => rfl)
def b_check_point : SM := (ifS (notT (tstE (callE (callN 1 F_is_point) [] (consA (varE 0) nilA)))) noS nextS)
def F_check_point : List MV → MH → Res MV := bodyF 1 1 b_check_point
theorem fb_check_point (M : Md fa fn ex K mg) : FnB R.prog w K mg base 4 "check_point" ["value"] 1 d_check_point F_check_point := by
  refine M.fb (N := ["value"]) (ps := ["value"]) 15 (d := d_check_point) rfl (M.glo 11) rfl ⟨rfl, rfl, rfl, by decide +kernel, rfl, by decide +kernel, by decide +kernel⟩ rfl fun X J hp W tk => ?_
  have v_value : NmV _ "value" 0 := J.v (by decide +kernel)
  have g_is_point : NmG _ "is_point" := J.g (by decide +kernel)
  exact (ss_one (ss_if (st_not (st_val (J.call tk (f_is_point M) (by decide) g_is_point (sa_cons v_value.var sa_nil)))) (ss_one ss_no) ss_nil))
theorem f_check_point (M : Md fa fn ex K mg) : FnS R.prog w K mg base 4 "check_point" 1 [] F_check_point := (fb_check_point M).s (fun fd F => Md.bindN F fun _ _ _ _ _ _ us hl => match us, hl with | [_], _ => rfl)
def b_turn_there : SM := (seqS (par2S 3 4 (.v (callE (callN 2 F_minus) [] (consA (bin2 ixDM (peekE 1) (cE (.int 0))) (consA (bin2 ixDM (peekE 0) (cE (.int 0))) nilA)))) (.v (callE (callN 2 F_minus) [] (consA (bin2 ixDM (peekE 2) (cE (.int 0))) (consA (bin2 ixDM (peekE 0) (cE (.int 0))) nilA))))) (seqS (par2S 5 6 (.v (callE (callN 2 F_minus) [] (consA (bin2 ixDM (peekE 1) (cE (.int 1))) (consA (bin2 ixDM (peekE 0) (cE (.int 1))) nilA)))) (.v (callE (callN 2 F_minus) [] (consA (bin2 ixDM (peekE 2) (cE (.int 1))) (consA (bin2 ixDM (peekE 0) (cE (.int 1))) nilA))))) (seqS (setS 7 (bin2 ixDM (callE (callN 2 F_minus) [] (consA (callE (callN 2 F_times) [] (consA (varE 3) (consA (varE 6) nilA))) (consA (callE (callN 2 F_times) [] (consA (varE 5) (consA (varE 4) nilA))) nilA))) (cE (.int 0)))) (retS (bin2 subM (callB intM (consA (bin2 gtM (peekE 7) (cE (.int 0))) nilA)) (callB intM (consA (bin2 ltM (peekE 7) (cE (.int 0))) nilA)))))))
def F_turn_there : List MV → MH → Res MV := bodyF 8 3 b_turn_there
theorem fb_turn_there (M : Md fa fn ex K mg) : FnB R.prog w K mg base 3 "turn_there" ["one", "other", "third"] 3 d_turn_there F_turn_there := by
  refine M.fb (N := ["one", "other", "third", "wide", "far", "high", "long", "found"]) (ps := ["one", "other", "third"]) 16 (d := d_turn_there) rfl (M.glo 12) rfl ⟨rfl, rfl, rfl, by decide +kernel, rfl, by decide +kernel, by decide +kernel⟩ rfl fun X J hp W tk => ?_
  have a_wide : NmA _ "wide" 3 := J.a (by decide +kernel)
  have a_far : NmA _ "far" 4 := J.a (by decide +kernel)
  have v_one : NmV _ "one" 0 := J.v (by decide +kernel)
  have v_other : NmV _ "other" 1 := J.v (by decide +kernel)
  have g_minus : NmG _ "minus" := J.g (by decide +kernel)
  have v_third : NmV _ "third" 2 := J.v (by decide +kernel)
  have a_high : NmA _ "high" 5 := J.a (by decide +kernel)
  have a_long : NmA _ "long" 6 := J.a (by decide +kernel)
  have v_far : NmV _ "far" 4 := J.v (by decide +kernel)
  have v_high : NmV _ "high" 5 := J.v (by decide +kernel)
  have g_times : NmG _ "times" := J.g (by decide +kernel)
  have v_long : NmV _ "long" 6 := J.v (by decide +kernel)
  have v_wide : NmV _ "wide" 3 := J.v (by decide +kernel)
  have a_found : NmA _ "found" 7 := J.a (by decide +kernel)
  have v_found : NmV _ "found" 7 := J.v (by decide +kernel)
  have b_int : NmB _ "int" (.type "int") := J.b (m_int M) bt_int (by decide +kernel)
  exact (ss_cons (J.par2 (a := (.v (callE (callN 2 F_minus) [] (consA (bin2 ixDM (peekE 1) (cE (.int 0))) (consA (bin2 ixDM (peekE 0) (cE (.int 0))) nilA))))) (b := (.v (callE (callN 2 F_minus) [] (consA (bin2 ixDM (peekE 2) (cE (.int 0))) (consA (bin2 ixDM (peekE 0) (cE (.int 0))) nilA))))) a_wide a_far (by decide) (by decide +kernel) (by decide +kernel) (J.call tk (f_minus M) (by decide) g_minus (sa_cons (se_at J.units (fun _ _ => rfl) (fun _ _ => rfl) v_other.peek (toP se_int)) (sa_cons (se_at J.units (fun _ _ => rfl) (fun _ _ => rfl) v_one.peek (toP se_int)) sa_nil))) (J.call tk (f_minus M) (by decide) g_minus (sa_cons (se_at J.units (fun _ _ => rfl) (fun _ _ => rfl) v_third.peek (toP se_int)) (sa_cons (se_at J.units (fun _ _ => rfl) (fun _ _ => rfl) v_one.peek (toP se_int)) sa_nil))) (by rfl)) (ss_cons (J.par2 (a := (.v (callE (callN 2 F_minus) [] (consA (bin2 ixDM (peekE 1) (cE (.int 1))) (consA (bin2 ixDM (peekE 0) (cE (.int 1))) nilA))))) (b := (.v (callE (callN 2 F_minus) [] (consA (bin2 ixDM (peekE 2) (cE (.int 1))) (consA (bin2 ixDM (peekE 0) (cE (.int 1))) nilA))))) a_high a_long (by decide) (by decide +kernel) (by decide +kernel) (J.call tk (f_minus M) (by decide) g_minus (sa_cons (se_at J.units (fun _ _ => rfl) (fun _ _ => rfl) v_other.peek (toP se_int)) (sa_cons (se_at J.units (fun _ _ => rfl) (fun _ _ => rfl) v_one.peek (toP se_int)) sa_nil))) (J.call tk (f_minus M) (by decide) g_minus (sa_cons (se_at J.units (fun _ _ => rfl) (fun _ _ => rfl) v_third.peek (toP se_int)) (sa_cons (se_at J.units (fun _ _ => rfl) (fun _ _ => rfl) v_one.peek (toP se_int)) sa_nil))) (by rfl)) (ss_cons (a_found.set (se_at J.units (fun _ _ => rfl) (fun _ _ => rfl) (toP (J.call tk (f_minus M) (by decide) g_minus (sa_cons (J.call tk (f_times M) (by decide) g_times (sa_cons v_wide.var (sa_cons v_long.var sa_nil))) (sa_cons (J.call tk (f_times M) (by decide) g_times (sa_cons v_high.var (sa_cons v_far.var sa_nil))) sa_nil)))) (toP se_int))) (ss_one (ss_ret (se_bin op_subM vp_sub (toP (se_callT call_int1 vp_toInt b_int (spa_cons (toP (se_cmp op_gtM vp_gt (nomark _) v_found.peek (toP se_int))) spa_nil))) (toP (se_callT call_int1 vp_toInt b_int (spa_cons (toP (se_cmp op_ltM vp_lt (nomark _) v_found.peek (toP se_int))) spa_nil)))))))))
theorem f_turn_there (M : Md fa fn ex K mg) : FnS R.prog w K mg base 3 "turn_there" 3 [] F_turn_there := (fb_turn_there M).s (fun fd F => Md.bindN F fun _ _ _ _ _ _ us hl => match us, hl with | [_, _, _], _ => rfl)
def b_is_within : SM := (retS (andE (un1 notM (andE (callE (callN 2 F_is_less) [] (consA (varE 1) (consA (varE 0) nilA))) (callE (callN 2 F_is_less) [] (consA (varE 1) (consA (varE 2) nilA))))) (un1 notM (andE (callE (callN 2 F_is_less) [] (consA (varE 0) (consA (varE 1) nilA))) (callE (callN 2 F_is_less) [] (consA (varE 2) (consA (varE 1) nilA)))))))
def F_is_within : List MV → MH → Res MV := bodyF 3 3 b_is_within
theorem fb_is_within (M : Md fa fn ex K mg) : FnB R.prog w K mg base 2 "is_within" ["low", "middle", "high"] 3 d_is_within F_is_within := by
  refine M.fb (N := ["low", "middle", "high"]) (ps := ["low", "middle", "high"]) 17 (d := d_is_within) rfl (M.glo 13) rfl ⟨rfl, rfl, rfl, by decide +kernel, rfl, by decide +kernel, by decide +kernel⟩ rfl fun X J hp W tk => ?_
  have v_low : NmV _ "low" 0 := J.v (by decide +kernel)
  have v_middle : NmV _ "middle" 1 := J.v (by decide +kernel)
  have g_is_less : NmG _ "is_less" := J.g (by decide +kernel)
  have v_high : NmV _ "high" 2 := J.v (by decide +kernel)
  exact (ss_one (ss_ret (se_and (se_not (se_and (J.call tk (f_is_less M) (by decide) g_is_less (sa_cons v_middle.var (sa_cons v_low.var sa_nil))) (se_one (J.call tk (f_is_less M) (by decide) g_is_less (sa_cons v_middle.var (sa_cons v_high.var sa_nil)))))) (se_one (se_not (se_and (J.call tk (f_is_less M) (by decide) g_is_less (sa_cons v_low.var (sa_cons v_middle.var sa_nil))) (se_one (J.call tk (f_is_less M) (by decide) g_is_less (sa_cons v_high.var (sa_cons v_middle.var sa_nil))))))))))
theorem f_is_within (M : Md fa fn ex K mg) : FnS R.prog w K mg base 2 "is_within" 3 [] F_is_within := (fb_is_within M).s (fun fd F => Md.bindN F fun _ _ _ _ _ _ us hl => match us, hl with | [_, _, _], _ => rfl)
def b_is_on_points : SM := (seqS (ifS (tstE (bin2 neM (callE (callN 3 F_turn_there) [] (consA (bin2 ixDM (peekE 1) (cE (.int 0))) (consA (bin2 ixDM (peekE 1) (cE (.int 1))) (consA (varE 0) nilA)))) (cE (.int 0)))) (retS (cE (.bl false))) nextS) (retS (callB allBM (consA (wrapL (compO [2] (itAny (tupE (consA (cE (.int 0)) (consA (cE (.int 1)) nilA)))) (nameT 2) yesT (callE (callN 3 F_is_within) [] (consA (bin2 ixDM (bin2 ixDM (peekE 1) (cE (.int 0))) (peekE 2)) (consA (bin2 ixDM (peekE 0) (peekE 2)) (consA (bin2 ixDM (bin2 ixDM (peekE 1) (cE (.int 1))) (peekE 2)) nilA)))))) nilA))))
def F_is_on_points : List MV → MH → Res MV := bodyF 3 2 b_is_on_points
theorem fb_is_on_points (M : Md fa fn ex K mg) : FnB R.prog w K mg base 4 "is_on_points" ["point", "wall"] 2 d_is_on_points F_is_on_points := by
  refine M.fb (N := ["point", "wall", "way"]) (ps := ["point", "wall"]) 18 (d := d_is_on_points) rfl (M.glo 14) rfl ⟨rfl, rfl, rfl, by decide +kernel, rfl, by decide +kernel, by decide +kernel⟩ rfl fun X J hp W tk => ?_
  have v_point : NmV _ "point" 0 := J.v (by decide +kernel)
  have v_wall : NmV _ "wall" 1 := J.v (by decide +kernel)
  have g_turn_there : NmG _ "turn_there" := J.g (by decide +kernel)
  have b_all : NmB _ "all" (.builtin "all") := J.b (m_all M) bt_all (by decide +kernel)
  exact (ss_cons (ss_if (st_cmp J.opNe vp_ne (nomark _) (toP (J.call tk (f_turn_there M) (by decide) g_turn_there (sa_cons (se_at J.units (fun _ _ => rfl) (fun _ _ => rfl) v_wall.peek (toP se_int)) (sa_cons (se_at J.units (fun _ _ => rfl) (fun _ _ => rfl) v_wall.peek (toP se_int)) (sa_cons v_point.var sa_nil))))) (toP se_int)) (ss_one (ss_ret se_bl)) ss_nil) (ss_one (ss_ret (se_callB (cr_all J.calm) vp_all b_all (spa_cons (toP (ofO (J.compJ (vs := [("way", 2)]) (toIP (si_any (se_tup (sa_cons se_int (sa_cons se_int sa_nil))))) (by decide +kernel) (fun s H C cl fp J => by
  have a_way : NmA _ "way" 2 := J.a (by decide +kernel)
  exact a_way.tg) (fun s H C cl fp J => sts_nil) (fun s H C cl fp J => by
  have v_wall : NmV _ "wall" 1 := J.v (by decide +kernel)
  have v_way : NmV _ "way" 2 := J.v (by decide +kernel)
  have v_point : NmV _ "point" 0 := J.v (by decide +kernel)
  have g_is_within : NmG _ "is_within" := J.g (by decide +kernel)
  exact (J.call takes_no (f_is_within M) (by decide) g_is_within (sa_cons (se_at J.units (fun _ _ => rfl) (fun _ _ => rfl) (toP (se_at J.units (fun _ _ => rfl) (fun _ _ => rfl) v_wall.peek (toP se_int))) v_way.peek) (sa_cons (se_at J.units (fun _ _ => rfl) (fun _ _ => rfl) v_point.peek v_way.peek) (sa_cons (se_at J.units (fun _ _ => rfl) (fun _ _ => rfl) (toP (se_at J.units (fun _ _ => rfl) (fun _ _ => rfl) v_wall.peek (toP se_int))) v_way.peek) sa_nil))))) (by decide)))) spa_nil)))))
theorem f_is_on_points (M : Md fa fn ex K mg) : FnS R.prog w K mg base 4 "is_on_points" 2 [] F_is_on_points := (fb_is_on_points M).s (fun fd F => Md.bindN F fun _ _ _ _ _ _ us hl => match us, hl with | [_, _], _ => rfl)
def b_do_meet : SM := (seqS (ifS (orT (tstE (callE (callN 2 F_is_on_points) [] (consA (bin2 ixDM (peekE 0) (cE (.int 0))) (consA (varE 1) nilA)))) (orT (tstE (callE (callN 2 F_is_on_points) [] (consA (bin2 ixDM (peekE 0) (cE (.int 1))) (consA (varE 1) nilA)))) (orT (tstE (callE (callN 2 F_is_on_points) [] (consA (bin2 ixDM (peekE 1) (cE (.int 0))) (consA (varE 0) nilA)))) (tstE (callE (callN 2 F_is_on_points) [] (consA (bin2 ixDM (peekE 1) (cE (.int 1))) (consA (varE 0) nilA))))))) (retS (cE (.bl true))) nextS) (seqS (setS 2 (bin2 mulM (callE (callN 3 F_turn_there) [] (consA (bin2 ixDM (peekE 0) (cE (.int 0))) (consA (bin2 ixDM (peekE 0) (cE (.int 1))) (consA (bin2 ixDM (peekE 1) (cE (.int 0))) nilA)))) (callE (callN 3 F_turn_there) [] (consA (bin2 ixDM (peekE 0) (cE (.int 0))) (consA (bin2 ixDM (peekE 0) (cE (.int 1))) (consA (bin2 ixDM (peekE 1) (cE (.int 1))) nilA)))))) (retS (andE (bin2 ltM (peekE 2) (cE (.int 0))) (bin2 ltM (bin2 mulM (callE (callN 3 F_turn_there) [] (consA (bin2 ixDM (peekE 1) (cE (.int 0))) (consA (bin2 ixDM (peekE 1) (cE (.int 1))) (consA (bin2 ixDM (peekE 0) (cE (.int 0))) nilA)))) (callE (callN 3 F_turn_there) [] (consA (bin2 ixDM (peekE 1) (cE (.int 0))) (consA (bin2 ixDM (peekE 1) (cE (.int 1))) (consA (bin2 ixDM (peekE 0) (cE (.int 1))) nilA))))) (cE (.int 0)))))))
def F_do_meet : List MV → MH → Res MV := bodyF 3 2 b_do_meet
theorem fb_do_meet (M : Md fa fn ex K mg) : FnB R.prog w K mg base 5 "do_meet" ["one", "other"] 2 d_do_meet F_do_meet := by
  refine M.fb (N := ["one", "other", "near"]) (ps := ["one", "other"]) 19 (d := d_do_meet) rfl (M.glo 15) rfl ⟨rfl, rfl, rfl, by decide +kernel, rfl, by decide +kernel, by decide +kernel⟩ rfl fun X J hp W tk => ?_
  have v_other : NmV _ "other" 1 := J.v (by decide +kernel)
  have v_one : NmV _ "one" 0 := J.v (by decide +kernel)
  have g_is_on_points : NmG _ "is_on_points" := J.g (by decide +kernel)
  have g_turn_there : NmG _ "turn_there" := J.g (by decide +kernel)
  have a_near : NmA _ "near" 2 := J.a (by decide +kernel)
  have v_near : NmV _ "near" 2 := J.v (by decide +kernel)
  exact (ss_cons (ss_if (sw_or (st_val (J.call tk (f_is_on_points M) (by decide) g_is_on_points (sa_cons (se_at J.units (fun _ _ => rfl) (fun _ _ => rfl) v_one.peek (toP se_int)) (sa_cons v_other.var sa_nil)))) (sw_or (st_val (J.call tk (f_is_on_points M) (by decide) g_is_on_points (sa_cons (se_at J.units (fun _ _ => rfl) (fun _ _ => rfl) v_one.peek (toP se_int)) (sa_cons v_other.var sa_nil)))) (sw_or (st_val (J.call tk (f_is_on_points M) (by decide) g_is_on_points (sa_cons (se_at J.units (fun _ _ => rfl) (fun _ _ => rfl) v_other.peek (toP se_int)) (sa_cons v_one.var sa_nil)))) (sw_or1 (st_val (J.call tk (f_is_on_points M) (by decide) g_is_on_points (sa_cons (se_at J.units (fun _ _ => rfl) (fun _ _ => rfl) v_other.peek (toP se_int)) (sa_cons v_one.var sa_nil)))))))).pt (ss_one (ss_ret se_bl)) ss_nil) (ss_cons (a_near.set (se_bin op_mulM vp_mul (toP (J.call tk (f_turn_there M) (by decide) g_turn_there (sa_cons (se_at J.units (fun _ _ => rfl) (fun _ _ => rfl) v_one.peek (toP se_int)) (sa_cons (se_at J.units (fun _ _ => rfl) (fun _ _ => rfl) v_one.peek (toP se_int)) (sa_cons (se_at J.units (fun _ _ => rfl) (fun _ _ => rfl) v_other.peek (toP se_int)) sa_nil))))) (toP (J.call tk (f_turn_there M) (by decide) g_turn_there (sa_cons (se_at J.units (fun _ _ => rfl) (fun _ _ => rfl) v_one.peek (toP se_int)) (sa_cons (se_at J.units (fun _ _ => rfl) (fun _ _ => rfl) v_one.peek (toP se_int)) (sa_cons (se_at J.units (fun _ _ => rfl) (fun _ _ => rfl) v_other.peek (toP se_int)) sa_nil))))))) (ss_one (ss_ret (se_and (se_cmp op_ltM vp_lt (nomark _) v_near.peek (toP se_int)) (se_one (se_cmp op_ltM vp_lt (nomark _) (toP (se_bin op_mulM vp_mul (toP (J.call tk (f_turn_there M) (by decide) g_turn_there (sa_cons (se_at J.units (fun _ _ => rfl) (fun _ _ => rfl) v_other.peek (toP se_int)) (sa_cons (se_at J.units (fun _ _ => rfl) (fun _ _ => rfl) v_other.peek (toP se_int)) (sa_cons (se_at J.units (fun _ _ => rfl) (fun _ _ => rfl) v_one.peek (toP se_int)) sa_nil))))) (toP (J.call tk (f_turn_there M) (by decide) g_turn_there (sa_cons (se_at J.units (fun _ _ => rfl) (fun _ _ => rfl) v_other.peek (toP se_int)) (sa_cons (se_at J.units (fun _ _ => rfl) (fun _ _ => rfl) v_other.peek (toP se_int)) (sa_cons (se_at J.units (fun _ _ => rfl) (fun _ _ => rfl) v_one.peek (toP se_int)) sa_nil))))))) (toP se_int))))))))
theorem f_do_meet (M : Md fa fn ex K mg) : FnS R.prog w K mg base 5 "do_meet" 2 [] F_do_meet := (fb_do_meet M).s (fun fd F => Md.bindN F fun _ _ _ _ _ _ us hl => match us, hl with | [_, _], _ => rfl)
def b_walls_there : SM := (retS (wrapL (lzipO (consA (peekE 0) (consA (bin2 addM (slV (peekE 0) (prtP (cE (.int 1))) noP) (slV (peekE 0) noP (prtP (cE (.int 1))))) nilA)))))
def F_walls_there : List MV → MH → Res MV := bodyF 1 1 b_walls_there
theorem fb_walls_there (M : Md fa fn ex K mg) : FnB R.prog w K mg base 1 "walls_there" ["room"] 1 d_walls_there F_walls_there := by
  refine M.fb (N := ["room"]) (ps := ["room"]) 20 (d := d_walls_there) rfl (M.glo 16) rfl ⟨rfl, rfl, rfl, by decide +kernel, rfl, by decide +kernel, by decide +kernel⟩ rfl fun X J hp W tk => ?_
  have v_room : NmV _ "room" 0 := J.v (by decide +kernel)
  have b_list : NmB _ "list" (.type "list") := J.b (m_list M) bt_list (by decide +kernel)
  have b_zip : NmB _ "zip" (.type "zip") := J.b (m_zip M) bt_zip (by decide +kernel)
  exact (ss_one (ss_ret (ofO (so_lzip J.calm b_list b_zip (spa_cons v_room.peek (spa_cons (toP (se_bin op_addM vp_add (toP (se_slV v_room.peek (spo_some (toP se_int)) spo_none)) (toP (se_slV v_room.peek spo_none (spo_some (toP se_int)))))) spa_nil))))))
theorem f_walls_there (M : Md fa fn ex K mg) : FnS R.prog w K mg base 1 "walls_there" 1 [] F_walls_there := (fb_walls_there M).s (fun fd F => Md.bindN F fun _ _ _ _ _ _ us hl => match us, hl with | [_], _ => rfl)
def b_double_there : SM := (retS (callE (callN 1 F_total) [] (consA (wrapL (compO [1, 2] (itAny (callE (callN 1 F_walls_there) [] (consA (varE 0) nilA))) (tupT 2 (consT (nameT 1) (consT (nameT 2) nilT))) yesT (callE (callN 2 F_minus) [] (consA (callE (callN 2 F_times) [] (consA (bin2 ixDM (peekE 1) (cE (.int 0))) (consA (bin2 ixDM (peekE 2) (cE (.int 1))) nilA))) (consA (callE (callN 2 F_times) [] (consA (bin2 ixDM (peekE 2) (cE (.int 0))) (consA (bin2 ixDM (peekE 1) (cE (.int 1))) nilA))) nilA))))) nilA)))
def F_double_there : List MV → MH → Res MV := bodyF 3 1 b_double_there
theorem fb_double_there (M : Md fa fn ex K mg) : FnB R.prog w K mg base 4 "double_there" ["room"] 1 d_double_there F_double_there := by
  refine M.fb (N := ["room", "one", "other"]) (ps := ["room"]) 21 (d := d_double_there) rfl (M.glo 17) rfl ⟨rfl, rfl, rfl, by decide +kernel, rfl, by decide +kernel, by decide +kernel⟩ rfl fun X J hp W tk => ?_
  have v_room : NmV _ "room" 0 := J.v (by decide +kernel)
  have g_walls_there : NmG _ "walls_there" := J.g (by decide +kernel)
  have g_total : NmG _ "total" := J.g (by decide +kernel)
  exact (ss_one (ss_ret (J.call tk (f_total M) (by decide) g_total (sa_cons (ofO (J.compJ (vs := [("one", 1), ("other", 2)]) (toIP (si_any (J.call tk (f_walls_there M) (by decide) g_walls_there (sa_cons v_room.var sa_nil)))) (by decide +kernel) (fun s H C cl fp J => by
  have a_other : NmA _ "other" 2 := J.a (by decide +kernel)
  have a_one : NmA _ "one" 1 := J.a (by decide +kernel)
  exact (sg_tup J.calm (sgs_cons a_one.tg (sgs_cons a_other.tg sgs_nil)))) (fun s H C cl fp J => sts_nil) (fun s H C cl fp J => by
  have v_one : NmV _ "one" 1 := J.v (by decide +kernel)
  have v_other : NmV _ "other" 2 := J.v (by decide +kernel)
  have g_times : NmG _ "times" := J.g (by decide +kernel)
  have g_minus : NmG _ "minus" := J.g (by decide +kernel)
  exact (J.call takes_no (f_minus M) (by decide) g_minus (sa_cons (J.call takes_no (f_times M) (by decide) g_times (sa_cons (se_at J.units (fun _ _ => rfl) (fun _ _ => rfl) v_one.peek (toP se_int)) (sa_cons (se_at J.units (fun _ _ => rfl) (fun _ _ => rfl) v_other.peek (toP se_int)) sa_nil))) (sa_cons (J.call takes_no (f_times M) (by decide) g_times (sa_cons (se_at J.units (fun _ _ => rfl) (fun _ _ => rfl) v_other.peek (toP se_int)) (sa_cons (se_at J.units (fun _ _ => rfl) (fun _ _ => rfl) v_one.peek (toP se_int)) sa_nil))) sa_nil)))) (by decide))) sa_nil))))
theorem f_double_there (M : Md fa fn ex K mg) : FnS R.prog w K mg base 4 "double_there" 1 [] F_double_there := (fb_double_there M).s (fun fd F => Md.bindN F fun _ _ _ _ _ _ us hl => match us, hl with | [_], _ => rfl)
def b_straight_at : SM := (seqS (setS 1 (callB lenM (consA (peekE 0) nilA))) (seqS (forS (nameT 2) (itB rng1M (consA (varE 1) nilA)) (ifS (tstE (bin2 eqM (callE (callN 3 F_turn_there) [] (consA (bin2 ixDM (peekE 0) (bin2 subM (peekE 2) (cE (.int 1)))) (consA (bin2 ixDM (peekE 0) (peekE 2)) (consA (bin2 ixDM (peekE 0) (bin2 modM (bin2 addM (peekE 2) (cE (.int 1))) (peekE 1))) nilA)))) (cE (.int 0)))) (retS (varE 2)) nextS)) (retS (cE .non))))
def F_straight_at : List MV → MH → Res MV := bodyF 3 1 b_straight_at
theorem fb_straight_at (M : Md fa fn ex K mg) : FnB R.prog w K mg base 4 "straight_at" ["corners"] 1 d_straight_at F_straight_at := by
  refine M.fb (N := ["corners", "many", "at"]) (ps := ["corners"]) 22 (d := d_straight_at) rfl (M.glo 18) rfl ⟨rfl, rfl, rfl, by decide +kernel, rfl, by decide +kernel, by decide +kernel⟩ rfl fun X J hp W tk => ?_
  have v_corners : NmV _ "corners" 0 := J.v (by decide +kernel)
  have b_len : NmB _ "len" (.builtin "len") := J.b (m_len M) bt_len (by decide +kernel)
  have a_many : NmA _ "many" 1 := J.a (by decide +kernel)
  have v_many : NmV _ "many" 1 := J.v (by decide +kernel)
  have b_range : NmB _ "range" (.type "range") := J.b (m_range M) bt_range (by decide +kernel)
  have a_at : NmA _ "at" 2 := J.a (by decide +kernel)
  have v_at : NmV _ "at" 2 := J.v (by decide +kernel)
  have g_turn_there : NmG _ "turn_there" := J.g (by decide +kernel)
  exact (ss_cons (a_many.set (se_callB call_len vp_len b_len (spa_cons v_corners.peek spa_nil))) (ss_cons (ss_for hp J.calm (si_rng1 b_range (sa_cons v_many.var sa_nil)) a_at.tg (ss_one (ss_if (st_cmp J.opEq vp_eq (nomark _) (toP (J.call tk (f_turn_there M) (by decide) g_turn_there (sa_cons (se_at J.units (fun _ _ => rfl) (fun _ _ => rfl) v_corners.peek (toP (se_bin op_subM vp_sub v_at.peek (toP se_int)))) (sa_cons (se_at J.units (fun _ _ => rfl) (fun _ _ => rfl) v_corners.peek v_at.peek) (sa_cons (se_at J.units (fun _ _ => rfl) (fun _ _ => rfl) v_corners.peek (toP (se_bin op_modN vp_mod (toP (se_bin op_addM vp_add v_at.peek (toP se_int))) v_many.peek))) sa_nil))))) (toP se_int)) (ss_one (ss_ret v_at.var)) ss_nil))) (ss_one (ss_ret se_non))))
theorem f_straight_at (M : Md fa fn ex K mg) : FnS R.prog w K mg base 4 "straight_at" 1 [] F_straight_at := (fb_straight_at M).s (fun fd F => Md.bindN F fun _ _ _ _ _ _ us hl => match us, hl with | [_], _ => rfl)
def b_meeting_at : SM := (seqS (par2S 1 2 (.v (callE (callN 1 F_walls_there) [] (consA (varE 0) nilA))) (.v (callB lenM (consA (peekE 0) nilA)))) (seqS (forS (nameT 3) (itB rng1M (consA (varE 2) nilA)) (forS (nameT 4) (itB rng2M (consA (bin2 addM (peekE 3) (cE (.int 2))) (consA (varE 2) nilA))) (ifS (andT (tstE (bin2 neM (tupE (consA (varE 3) (consA (varE 4) nilA))) (tupE (consA (cE (.int 0)) (consA (bin2 subM (peekE 2) (cE (.int 1))) nilA))))) (tstE (callE (callN 2 F_do_meet) [] (consA (bin2 ixDM (peekE 1) (peekE 3)) (consA (bin2 ixDM (peekE 1) (peekE 4)) nilA))))) (retS (tupE (consA (varE 3) (consA (varE 4) nilA)))) nextS))) (retS (cE .non))))
def F_meeting_at : List MV → MH → Res MV := bodyF 5 1 b_meeting_at
theorem fb_meeting_at (M : Md fa fn ex K mg) : FnB R.prog w K mg base 6 "meeting_at" ["corners"] 1 d_meeting_at F_meeting_at := by
  refine M.fb (N := ["corners", "walls", "many", "one", "other"]) (ps := ["corners"]) 23 (d := d_meeting_at) rfl (M.glo 19) rfl ⟨rfl, rfl, rfl, by decide +kernel, rfl, by decide +kernel, by decide +kernel⟩ rfl fun X J hp W tk => ?_
  have a_walls : NmA _ "walls" 1 := J.a (by decide +kernel)
  have a_many : NmA _ "many" 2 := J.a (by decide +kernel)
  have v_corners : NmV _ "corners" 0 := J.v (by decide +kernel)
  have g_walls_there : NmG _ "walls_there" := J.g (by decide +kernel)
  have b_len : NmB _ "len" (.builtin "len") := J.b (m_len M) bt_len (by decide +kernel)
  have v_many : NmV _ "many" 2 := J.v (by decide +kernel)
  have b_range : NmB _ "range" (.type "range") := J.b (m_range M) bt_range (by decide +kernel)
  have a_one : NmA _ "one" 3 := J.a (by decide +kernel)
  have v_one : NmV _ "one" 3 := J.v (by decide +kernel)
  have a_other : NmA _ "other" 4 := J.a (by decide +kernel)
  have v_other : NmV _ "other" 4 := J.v (by decide +kernel)
  have v_walls : NmV _ "walls" 1 := J.v (by decide +kernel)
  have g_do_meet : NmG _ "do_meet" := J.g (by decide +kernel)
  exact (ss_cons (J.par2 (a := (.v (callE (callN 1 F_walls_there) [] (consA (varE 0) nilA)))) (b := (.v (callB lenM (consA (peekE 0) nilA)))) a_walls a_many (by decide) (by decide +kernel) (by decide +kernel) (J.call tk (f_walls_there M) (by decide) g_walls_there (sa_cons v_corners.var sa_nil)) (se_callB call_len vp_len b_len (spa_cons v_corners.peek spa_nil)) (by rfl)) (ss_cons (ss_for hp J.calm (si_rng1 b_range (sa_cons v_many.var sa_nil)) a_one.tg (ss_one (ss_for hp J.calm (si_rng2 b_range (sa_cons (se_bin op_addM vp_add v_one.peek (toP se_int)) (sa_cons v_many.var sa_nil))) a_other.tg (ss_one (ss_if (sw_and (st_cmp J.opNe vp_ne (nomark _) (toP (se_tup (sa_cons v_one.var (sa_cons v_other.var sa_nil)))) (toP (se_tup (sa_cons se_int (sa_cons (se_bin op_subM vp_sub v_many.peek (toP se_int)) sa_nil))))) (sw_and1 (st_val (J.call tk (f_do_meet M) (by decide) g_do_meet (sa_cons (se_at J.units (fun _ _ => rfl) (fun _ _ => rfl) v_walls.peek v_one.peek) (sa_cons (se_at J.units (fun _ _ => rfl) (fun _ _ => rfl) v_walls.peek v_other.peek) sa_nil)))))).pt (ss_one (ss_ret (se_tup (sa_cons v_one.var (sa_cons v_other.var sa_nil))))) ss_nil))))) (ss_one (ss_ret se_non))))
theorem f_meeting_at (M : Md fa fn ex K mg) : FnS R.prog w K mg base 6 "meeting_at" 1 [] F_meeting_at := (fb_meeting_at M).s (fun fd F => Md.bindN F fun _ _ _ _ _ _ us hl => match us, hl with | [_], _ => rfl)
def b_fault_there : SM := (seqS (setS 1 (callE (callN 1 F_straight_at) [] (consA (varE 0) nilA))) (seqS (ifS (tstE (un1 notNM (peekE 1))) (retS (tupE (consA (cE (.str [115, 116, 114, 97, 105, 103, 104, 116])) (consA (varE 1) nilA)))) nextS) (seqS (setS 2 (callE (callN 1 F_meeting_at) [] (consA (varE 0) nilA))) (seqS (ifS (tstE (un1 notNM (peekE 2))) (retS (tupE (consA (cE (.str [109, 101, 101, 116])) (consA (bin2 ixDM (peekE 2) (cE (.int 0))) (consA (bin2 ixDM (peekE 2) (cE (.int 1))) nilA))))) nextS) (retS (ifE (tstE (callE (callN 2 F_is_less) [] (consA (callE (callN 1 F_double_there) [] (consA (varE 0) nilA)) (consA (cE c_NOUGHT) nilA)))) (tupE (consA (cE (.str [97, 98, 111, 117, 116])) nilA)) (cE .non)))))))
def F_fault_there : List MV → MH → Res MV := bodyF 3 1 b_fault_there
theorem fb_fault_there (M : Md fa fn ex K mg) : FnB R.prog w K mg base 7 "fault_there" ["corners"] 1 d_fault_there F_fault_there := by
  refine M.fb (N := ["corners", "at", "walls"]) (ps := ["corners"]) 24 (d := d_fault_there) rfl (M.glo 20) rfl ⟨rfl, rfl, rfl, by decide +kernel, rfl, by decide +kernel, by decide +kernel⟩ rfl fun X J hp W tk => ?_
  have v_corners : NmV _ "corners" 0 := J.v (by decide +kernel)
  have g_straight_at : NmG _ "straight_at" := J.g (by decide +kernel)
  have a_at : NmA _ "at" 1 := J.a (by decide +kernel)
  have v_at : NmV _ "at" 1 := J.v (by decide +kernel)
  have g_meeting_at : NmG _ "meeting_at" := J.g (by decide +kernel)
  have a_walls : NmA _ "walls" 2 := J.a (by decide +kernel)
  have v_walls : NmV _ "walls" 2 := J.v (by decide +kernel)
  have g_double_there : NmG _ "double_there" := J.g (by decide +kernel)
  have g_is_less : NmG _ "is_less" := J.g (by decide +kernel)
  exact (ss_cons (a_at.set (J.call tk (f_straight_at M) (by decide) g_straight_at (sa_cons v_corners.var sa_nil))) (ss_cons (ss_if (st_notN v_at.peek) (ss_one (ss_ret (se_tup (sa_cons (se_str (by decide +kernel)) (sa_cons v_at.var sa_nil))))) ss_nil) (ss_cons (a_walls.set (J.call tk (f_meeting_at M) (by decide) g_meeting_at (sa_cons v_corners.var sa_nil))) (ss_cons (ss_if (st_notN v_walls.peek) (ss_one (ss_ret (se_tup (sa_cons (se_str (by decide +kernel)) (sa_cons (se_at J.units (fun _ _ => rfl) (fun _ _ => rfl) v_walls.peek (toP se_int)) (sa_cons (se_at J.units (fun _ _ => rfl) (fun _ _ => rfl) v_walls.peek (toP se_int)) sa_nil)))))) ss_nil) (ss_one (ss_ret (se_if (st_val (J.call tk (f_is_less M) (by decide) g_is_less (sa_cons (J.call tk (f_double_there M) (by decide) g_double_there (sa_cons v_corners.var sa_nil)) (sa_cons (k_NOUGHT M J (by decide +kernel)) sa_nil)))) (se_tup (sa_cons (se_str (by decide +kernel)) sa_nil)) se_non)))))))
theorem f_fault_there (M : Md fa fn ex K mg) : FnS R.prog w K mg base 7 "fault_there" 1 [] F_fault_there := (fb_fault_there M).s (fun fd F => Md.bindN F fun _ _ _ _ _ _ us hl => match us, hl with | [_], _ => rfl)
def b_are_corners : SM := (seqS (ifS (orT (notT (tstE (un1 (isiM .list) (peekE 0)))) (orT (tstE (bin2 ltM (callB lenM (consA (peekE 0) nilA)) (cE (.int 3)))) (notT (tstE (callB allBM (consA (wrapL (compO [1] (itAny (varE 0)) (nameT 1) yesT (callE (callN 1 F_is_point) [] (consA (varE 1) nilA)))) nilA)))))) (retS (cE (.bl false))) nextS) (retS (callB allBM (consA (wrapL (compO [2] (itB rng1M (consA (callB lenM (consA (peekE 0) nilA)) nilA)) (nameT 2) yesT (bin2 notInM (bin2 ixDM (peekE 0) (peekE 2)) (slV (peekE 0) noP (prtP (peekE 2)))))) nilA))))
def F_are_corners : List MV → MH → Res MV := bodyF 3 1 b_are_corners
theorem fb_are_corners (M : Md fa fn ex K mg) : FnB R.prog w K mg base 4 "are_corners" ["value"] 1 d_are_corners F_are_corners := by
  refine M.fb (N := ["value", "point", "at"]) (ps := ["value"]) 25 (d := d_are_corners) rfl (M.glo 21) rfl ⟨rfl, rfl, rfl, by decide +kernel, rfl, by decide +kernel, by decide +kernel⟩ rfl fun X J hp W tk => ?_
  have v_value : NmV _ "value" 0 := J.v (by decide +kernel)
  have b_isinstance : NmB _ "isinstance" (.builtin "isinstance") := J.b (m_isinstance M) bt_isinstance (by decide +kernel)
  have b_list : NmB _ "list" (.type "list") := J.b (m_list M) bt_list (by decide +kernel)
  have b_len : NmB _ "len" (.builtin "len") := J.b (m_len M) bt_len (by decide +kernel)
  have b_all : NmB _ "all" (.builtin "all") := J.b (m_all M) bt_all (by decide +kernel)
  have b_range : NmB _ "range" (.type "range") := J.b (m_range M) bt_range (by decide +kernel)
  exact (ss_cons (ss_if (sw_or (st_not (st_val (se_isi (b := .list) b_isinstance b_list (by decide) v_value.peek))) (sw_or (st_cmp op_ltM vp_lt (nomark _) (toP (se_callB call_len vp_len b_len (spa_cons v_value.peek spa_nil))) (toP se_int)) (sw_or1 (st_not (st_val (se_callB (cr_all J.calm) vp_all b_all (spa_cons (toP (ofO (J.compJ (vs := [("point", 1)]) (toIP (si_any v_value.var)) (by decide +kernel) (fun s H C cl fp J => by
  have a_point : NmA _ "point" 1 := J.a (by decide +kernel)
  exact a_point.tg) (fun s H C cl fp J => sts_nil) (fun s H C cl fp J => by
  have v_point : NmV _ "point" 1 := J.v (by decide +kernel)
  have g_is_point : NmG _ "is_point" := J.g (by decide +kernel)
  exact (J.call takes_no (f_is_point M) (by decide) g_is_point (sa_cons v_point.var sa_nil))) (by decide)))) spa_nil))))))).pt (ss_one (ss_ret se_bl)) ss_nil) (ss_one (ss_ret (se_callB (cr_all J.calm) vp_all b_all (spa_cons (toP (ofO (J.compJ (vs := [("at", 2)]) (toIP (si_rng1 b_range (sa_cons (se_callB call_len vp_len b_len (spa_cons v_value.peek spa_nil)) sa_nil))) (by decide +kernel) (fun s H C cl fp J => by
  have a_at : NmA _ "at" 2 := J.a (by decide +kernel)
  exact a_at.tg) (fun s H C cl fp J => sts_nil) (fun s H C cl fp J => by
  have v_value : NmV _ "value" 0 := J.v (by decide +kernel)
  have v_at : NmV _ "at" 2 := J.v (by decide +kernel)
  exact (se_cmp J.opNotIn vp_notIn (by rfl) (toP (se_at J.units (fun _ _ => rfl) (fun _ _ => rfl) v_value.peek v_at.peek)) (toP (se_slV v_value.peek spo_none (spo_some v_at.peek))))) (by decide)))) spa_nil)))))
theorem f_are_corners (M : Md fa fn ex K mg) : FnS R.prog w K mg base 4 "are_corners" 1 [] F_are_corners := (fb_are_corners M).s (fun fd F => Md.bindN F fun _ _ _ _ _ _ us hl => match us, hl with | [_], _ => rfl)
def b_is_room : SM := (retS (andE (callE (callN 1 F_are_corners) [] (consA (varE 0) nilA)) (un1 isNM (callE (callN 1 F_fault_there) [] (consA (varE 0) nilA)))))
def F_is_room : List MV → MH → Res MV := bodyF 1 1 b_is_room
theorem fb_is_room (M : Md fa fn ex K mg) : FnB R.prog w K mg base 8 "is_room" ["value"] 1 d_is_room F_is_room := by
  refine M.fb (N := ["value"]) (ps := ["value"]) 26 (d := d_is_room) rfl (M.glo 22) rfl ⟨rfl, rfl, rfl, by decide +kernel, rfl, by decide +kernel, by decide +kernel⟩ rfl fun X J hp W tk => ?_
  have v_value : NmV _ "value" 0 := J.v (by decide +kernel)
  have g_are_corners : NmG _ "are_corners" := J.g (by decide +kernel)
  have g_fault_there : NmG _ "fault_there" := J.g (by decide +kernel)
  exact (ss_one (ss_ret (se_and (J.call tk (f_are_corners M) (by decide) g_are_corners (sa_cons v_value.var sa_nil)) (se_one (se_isN (toP (J.call tk (f_fault_there M) (by decide) g_fault_there (sa_cons v_value.var sa_nil))))))))
theorem f_is_room (M : Md fa fn ex K mg) : FnS R.prog w K mg base 8 "is_room" 1 [] F_is_room := (fb_is_room M).s (fun fd F => Md.bindN F fun _ _ _ _ _ _ us hl => match us, hl with | [_], _ => rfl)
def b_check_room : SM := (ifS (notT (tstE (callE (callN 1 F_is_room) [] (consA (varE 0) nilA)))) noS nextS)
def F_check_room : List MV → MH → Res MV := bodyF 1 1 b_check_room
theorem fb_check_room (M : Md fa fn ex K mg) : FnB R.prog w K mg base 9 "check_room" ["value"] 1 d_check_room F_check_room := by
  refine M.fb (N := ["value"]) (ps := ["value"]) 27 (d := d_check_room) rfl (M.glo 23) rfl ⟨rfl, rfl, rfl, by decide +kernel, rfl, by decide +kernel, by decide +kernel⟩ rfl fun X J hp W tk => ?_
  have v_value : NmV _ "value" 0 := J.v (by decide +kernel)
  have g_is_room : NmG _ "is_room" := J.g (by decide +kernel)
  exact (ss_one (ss_if (st_not (st_val (J.call tk (f_is_room M) (by decide) g_is_room (sa_cons v_value.var sa_nil)))) (ss_one ss_no) ss_nil))
theorem f_check_room (M : Md fa fn ex K mg) : FnS R.prog w K mg base 9 "check_room" 1 [] F_check_room := (fb_check_room M).s (fun fd F => Md.bindN F fun _ _ _ _ _ _ us hl => match us, hl with | [_], _ => rfl)
def b_is_passed : SM := (seqS (asgS (tupT 2 (consT (nameT 2) (consT (nameT 3) nilT))) (ifE (tstE (callE (callN 2 F_is_less) [] (consA (bin2 ixDM (bin2 ixDM (peekE 0) (cE (.int 0))) (cE (.int 1))) (consA (bin2 ixDM (bin2 ixDM (peekE 0) (cE (.int 1))) (cE (.int 1))) nilA)))) (tupE (consA (bin2 ixDM (peekE 0) (cE (.int 0))) (consA (bin2 ixDM (peekE 0) (cE (.int 1))) nilA))) (tupE (consA (bin2 ixDM (peekE 0) (cE (.int 1))) (consA (bin2 ixDM (peekE 0) (cE (.int 0))) nilA))))) (seqS (ifS (orT (tstE (callE (callN 2 F_is_less) [] (consA (bin2 ixDM (peekE 1) (cE (.int 1))) (consA (bin2 ixDM (peekE 2) (cE (.int 1))) nilA)))) (notT (tstE (callE (callN 2 F_is_less) [] (consA (bin2 ixDM (peekE 1) (cE (.int 1))) (consA (bin2 ixDM (peekE 3) (cE (.int 1))) nilA)))))) (retS (cE (.bl false))) nextS) (retS (bin2 gtM (callE (callN 3 F_turn_there) [] (consA (varE 2) (consA (varE 3) (consA (varE 1) nilA)))) (cE (.int 0))))))
def F_is_passed : List MV → MH → Res MV := bodyF 4 2 b_is_passed
theorem fb_is_passed (M : Md fa fn ex K mg) : FnB R.prog w K mg base 4 "is_passed" ["wall", "point"] 2 d_is_passed F_is_passed := by
  refine M.fb (N := ["wall", "point", "low", "high"]) (ps := ["wall", "point"]) 28 (d := d_is_passed) rfl (M.glo 24) rfl ⟨rfl, rfl, rfl, by decide +kernel, rfl, by decide +kernel, by decide +kernel⟩ rfl fun X J hp W tk => ?_
  have v_wall : NmV _ "wall" 0 := J.v (by decide +kernel)
  have g_is_less : NmG _ "is_less" := J.g (by decide +kernel)
  have a_high : NmA _ "high" 3 := J.a (by decide +kernel)
  have a_low : NmA _ "low" 2 := J.a (by decide +kernel)
  have v_low : NmV _ "low" 2 := J.v (by decide +kernel)
  have v_point : NmV _ "point" 1 := J.v (by decide +kernel)
  have v_high : NmV _ "high" 3 := J.v (by decide +kernel)
  have g_turn_there : NmG _ "turn_there" := J.g (by decide +kernel)
  exact (ss_cons (J.asg (se_if (st_val (J.call tk (f_is_less M) (by decide) g_is_less (sa_cons (se_at J.units (fun _ _ => rfl) (fun _ _ => rfl) (toP (se_at J.units (fun _ _ => rfl) (fun _ _ => rfl) v_wall.peek (toP se_int))) (toP se_int)) (sa_cons (se_at J.units (fun _ _ => rfl) (fun _ _ => rfl) (toP (se_at J.units (fun _ _ => rfl) (fun _ _ => rfl) v_wall.peek (toP se_int))) (toP se_int)) sa_nil)))) (se_tup (sa_cons (se_at J.units (fun _ _ => rfl) (fun _ _ => rfl) v_wall.peek (toP se_int)) (sa_cons (se_at J.units (fun _ _ => rfl) (fun _ _ => rfl) v_wall.peek (toP se_int)) sa_nil))) (se_tup (sa_cons (se_at J.units (fun _ _ => rfl) (fun _ _ => rfl) v_wall.peek (toP se_int)) (sa_cons (se_at J.units (fun _ _ => rfl) (fun _ _ => rfl) v_wall.peek (toP se_int)) sa_nil)))) (sg_tup J.calm (sgs_cons a_low.tg (sgs_cons a_high.tg sgs_nil))) (by rfl)) (ss_cons (ss_if (sw_or (st_val (J.call tk (f_is_less M) (by decide) g_is_less (sa_cons (se_at J.units (fun _ _ => rfl) (fun _ _ => rfl) v_point.peek (toP se_int)) (sa_cons (se_at J.units (fun _ _ => rfl) (fun _ _ => rfl) v_low.peek (toP se_int)) sa_nil)))) (sw_or1 (st_not (st_val (J.call tk (f_is_less M) (by decide) g_is_less (sa_cons (se_at J.units (fun _ _ => rfl) (fun _ _ => rfl) v_point.peek (toP se_int)) (sa_cons (se_at J.units (fun _ _ => rfl) (fun _ _ => rfl) v_high.peek (toP se_int)) sa_nil))))))).pt (ss_one (ss_ret se_bl)) ss_nil) (ss_one (ss_ret (se_cmp op_gtM vp_gt (nomark _) (toP (J.call tk (f_turn_there M) (by decide) g_turn_there (sa_cons v_low.var (sa_cons v_high.var (sa_cons v_point.var sa_nil))))) (toP se_int))))))
theorem f_is_passed (M : Md fa fn ex K mg) : FnS R.prog w K mg base 4 "is_passed" 2 [] F_is_passed := (fb_is_passed M).s (fun fd F => Md.bindN F fun _ _ _ _ _ _ us hl => match us, hl with | [_, _], _ => rfl)
def b_where_there : SM := (seqS (ifS (tstE (bin2 inM (peekE 1) (peekE 0))) (retS (cE (.str [99, 111, 114, 110, 101, 114]))) nextS) (seqS (setS 2 (callE (callN 1 F_walls_there) [] (consA (varE 0) nilA))) (seqS (ifS (tstE (callB anyBM (consA (wrapL (compO [4] (itAny (varE 2)) (nameT 4) yesT (callE (callN 2 F_is_on_points) [] (consA (varE 1) (consA (varE 4) nilA))))) nilA))) (retS (cE (.str [119, 97, 108, 108]))) nextS) (seqS (setS 3 (callB lenM (consA (wrapL (compO [4] (itAny (varE 2)) (nameT 4) (tstE (callE (callN 2 F_is_passed) [] (consA (varE 4) (consA (varE 1) nilA)))) (varE 4))) nilA))) (retS (ifE (tstE (bin2 eqM (bin2 modM (peekE 3) (cE (.int 2))) (cE (.int 1)))) (cE (.str [105, 110, 115, 105, 100, 101])) (cE (.str [111, 117, 116, 115, 105, 100, 101]))))))))
def F_where_there : List MV → MH → Res MV := bodyF 5 2 b_where_there
theorem fb_where_there (M : Md fa fn ex K mg) : FnB R.prog w K mg base 5 "where_there" ["room", "point"] 2 d_where_there F_where_there := by
  refine M.fb (N := ["room", "point", "walls", "many", "wall"]) (ps := ["room", "point"]) 29 (d := d_where_there) rfl (M.glo 25) rfl ⟨rfl, rfl, rfl, by decide +kernel, rfl, by decide +kernel, by decide +kernel⟩ rfl fun X J hp W tk => ?_
  have v_point : NmV _ "point" 1 := J.v (by decide +kernel)
  have v_room : NmV _ "room" 0 := J.v (by decide +kernel)
  have g_walls_there : NmG _ "walls_there" := J.g (by decide +kernel)
  have a_walls : NmA _ "walls" 2 := J.a (by decide +kernel)
  have v_walls : NmV _ "walls" 2 := J.v (by decide +kernel)
  have b_any : NmB _ "any" (.builtin "any") := J.b (m_any M) bt_any (by decide +kernel)
  have b_len : NmB _ "len" (.builtin "len") := J.b (m_len M) bt_len (by decide +kernel)
  have a_many : NmA _ "many" 3 := J.a (by decide +kernel)
  have v_many : NmV _ "many" 3 := J.v (by decide +kernel)
  exact (ss_cons (ss_if (st_cmp J.opIn vp_in (by rfl) v_point.peek v_room.peek) (ss_one (ss_ret (se_str (by decide +kernel)))) ss_nil) (ss_cons (a_walls.set (J.call tk (f_walls_there M) (by decide) g_walls_there (sa_cons v_room.var sa_nil))) (ss_cons (ss_if (st_val (se_callB (cr_any J.calm) vp_any b_any (spa_cons (toP (ofO (J.compJ (vs := [("wall", 4)]) (toIP (si_any v_walls.var)) (by decide +kernel) (fun s H C cl fp J => by
  have a_wall : NmA _ "wall" 4 := J.a (by decide +kernel)
  exact a_wall.tg) (fun s H C cl fp J => sts_nil) (fun s H C cl fp J => by
  have v_wall : NmV _ "wall" 4 := J.v (by decide +kernel)
  have v_point : NmV _ "point" 1 := J.v (by decide +kernel)
  have g_is_on_points : NmG _ "is_on_points" := J.g (by decide +kernel)
  exact (J.call takes_no (f_is_on_points M) (by decide) g_is_on_points (sa_cons v_point.var (sa_cons v_wall.var sa_nil)))) (by decide)))) spa_nil))) (ss_one (ss_ret (se_str (by decide +kernel)))) ss_nil) (ss_cons (a_many.set (se_callB call_len vp_len b_len (spa_cons (toP (ofO (J.compJ (vs := [("wall", 4)]) (toIP (si_any v_walls.var)) (by decide +kernel) (fun s H C cl fp J => by
  have a_wall : NmA _ "wall" 4 := J.a (by decide +kernel)
  exact a_wall.tg) (fun s H C cl fp J => by
  have v_point : NmV _ "point" 1 := J.v (by decide +kernel)
  have v_wall : NmV _ "wall" 4 := J.v (by decide +kernel)
  have g_is_passed : NmG _ "is_passed" := J.g (by decide +kernel)
  exact (sts_one (st_val (J.call takes_no (f_is_passed M) (by decide) g_is_passed (sa_cons v_wall.var (sa_cons v_point.var sa_nil)))))) (fun s H C cl fp J => by
  have v_wall : NmV _ "wall" 4 := J.v (by decide +kernel)
  exact v_wall.var) (by decide)))) spa_nil))) (ss_one (ss_ret (se_if (st_cmp J.opEq vp_eq (nomark _) (toP (se_bin op_modN vp_mod v_many.peek (toP se_int))) (toP se_int)) (se_str (by decide +kernel)) (se_str (by decide +kernel)))))))))
theorem f_where_there (M : Md fa fn ex K mg) : FnS R.prog w K mg base 5 "where_there" 2 [] F_where_there := (fb_where_there M).s (fun fd F => Md.bindN F fun _ _ _ _ _ _ us hl => match us, hl with | [_, _], _ => rfl)
def b_where_is : SM := (seqS (exprS (callE (callN 1 F_check_room) [] (consA (varE 0) nilA))) (seqS (exprS (callE (callN 1 F_check_point) [] (consA (varE 1) nilA))) (retS (callE (callN 2 F_where_there) [] (consA (varE 0) (consA (varE 1) nilA))))))
def F_where_is : List MV → MH → Res MV := bodyF 2 2 b_where_is
theorem fb_where_is (M : Md fa fn ex K mg) : FnB R.prog w K mg base 10 "where_is" ["room", "point"] 2 d_where_is F_where_is := by
  refine M.fb (N := ["room", "point"]) (ps := ["room", "point"]) 30 (d := d_where_is) rfl (M.glo 26) rfl ⟨rfl, rfl, rfl, by decide +kernel, rfl, by decide +kernel, by decide +kernel⟩ rfl fun X J hp W tk => ?_
  have v_room : NmV _ "room" 0 := J.v (by decide +kernel)
  have g_check_room : NmG _ "check_room" := J.g (by decide +kernel)
  have v_point : NmV _ "point" 1 := J.v (by decide +kernel)
  have g_check_point : NmG _ "check_point" := J.g (by decide +kernel)
  have g_where_there : NmG _ "where_there" := J.g (by decide +kernel)
  exact (ss_cons (ss_expr (J.call tk (f_check_room M) (by decide) g_check_room (sa_cons v_room.var sa_nil))) (ss_cons (ss_expr (J.call tk (f_check_point M) (by decide) g_check_point (sa_cons v_point.var sa_nil))) (ss_one (ss_ret (J.call tk (f_where_there M) (by decide) g_where_there (sa_cons v_room.var (sa_cons v_point.var sa_nil)))))))
theorem f_where_is (M : Md fa fn ex K mg) : FnS R.prog w K mg base 10 "where_is" 2 [] F_where_is := (fb_where_is M).s (fun fd F => Md.bindN F fun _ _ _ _ _ _ us hl => match us, hl with | [_, _], _ => rfl)
def b_triple_of : SM := (seqS (asgS (tupT 2 (consT (tupT 2 (consT (nameT 1) (consT (nameT 2) nilT))) (consT (tupT 2 (consT (nameT 3) (consT (nameT 4) nilT))) nilT))) (varE 0)) (retS (tupE (consA (bin2 mulM (peekE 1) (peekE 4)) (consA (bin2 mulM (peekE 3) (peekE 2)) (consA (bin2 mulM (peekE 2) (peekE 4)) nilA))))))
def F_triple_of : List MV → MH → Res MV := bodyF 5 1 b_triple_of
theorem fb_triple_of (M : Md fa fn ex K mg) : FnB R.prog w K mg base 1 "triple_of" ["point"] 1 d_triple_of F_triple_of := by
  refine M.fb (N := ["point", "x", "below_x", "y", "below_y"]) (ps := ["point"]) 31 (d := d_triple_of) rfl (M.glo 27) rfl ⟨rfl, rfl, rfl, by decide +kernel, rfl, by decide +kernel, by decide +kernel⟩ rfl fun X J hp W tk => ?_
  have v_point : NmV _ "point" 0 := J.v (by decide +kernel)
  have a_below_y : NmA _ "below_y" 4 := J.a (by decide +kernel)
  have a_y : NmA _ "y" 3 := J.a (by decide +kernel)
  have a_below_x : NmA _ "below_x" 2 := J.a (by decide +kernel)
  have a_x : NmA _ "x" 1 := J.a (by decide +kernel)
  have v_below_x : NmV _ "below_x" 2 := J.v (by decide +kernel)
  have v_below_y : NmV _ "below_y" 4 := J.v (by decide +kernel)
  have v_y : NmV _ "y" 3 := J.v (by decide +kernel)
  have v_x : NmV _ "x" 1 := J.v (by decide +kernel)
  exact (ss_cons (J.asg v_point.var (sg_tup J.calm (sgs_cons (sg_tup J.calm (sgs_cons a_x.tg (sgs_cons a_below_x.tg sgs_nil))) (sgs_cons (sg_tup J.calm (sgs_cons a_y.tg (sgs_cons a_below_y.tg sgs_nil))) sgs_nil))) (by rfl)) (ss_one (ss_ret (se_tup (sa_cons (se_bin op_mulM vp_mul v_x.peek v_below_y.peek) (sa_cons (se_bin op_mulM vp_mul v_y.peek v_below_x.peek) (sa_cons (se_bin op_mulM vp_mul v_below_x.peek v_below_y.peek) sa_nil)))))))
theorem f_triple_of (M : Md fa fn ex K mg) : FnS R.prog w K mg base 1 "triple_of" 1 [] F_triple_of := (fb_triple_of M).s (fun fd F => Md.bindN F fun _ _ _ _ _ _ us hl => match us, hl with | [_], _ => rfl)
def b_sign_of : SM := (retS (bin2 subM (bin2 gtM (peekE 0) (cE (.int 0))) (bin2 ltM (peekE 0) (cE (.int 0)))))
def F_sign_of : List MV → MH → Res MV := bodyF 1 1 b_sign_of
theorem fb_sign_of (M : Md fa fn ex K mg) : FnB R.prog w K mg base 1 "sign_of" ["number"] 1 d_sign_of F_sign_of := by
  refine M.fb (N := ["number"]) (ps := ["number"]) 32 (d := d_sign_of) rfl (M.glo 28) rfl ⟨rfl, rfl, rfl, by decide +kernel, rfl, by decide +kernel, by decide +kernel⟩ rfl fun X J hp W tk => ?_
  have v_number : NmV _ "number" 0 := J.v (by decide +kernel)
  exact (ss_one (ss_ret (se_bin op_subM vp_sub (toP (se_cmp op_gtM vp_gt (nomark _) v_number.peek (toP se_int))) (toP (se_cmp op_ltM vp_lt (nomark _) v_number.peek (toP se_int))))))
theorem f_sign_of (M : Md fa fn ex K mg) : FnS R.prog w K mg base 1 "sign_of" 1 [] F_sign_of := (fb_sign_of M).s (fun fd F => Md.bindN F fun _ _ _ _ _ _ us hl => match us, hl with | [_], _ => rfl)
def b_turn_of : SM := (seqS (setS 3 (bin2 mulM (bin2 ixDM (peekE 0) (cE (.int 0))) (bin2 subM (bin2 mulM (bin2 ixDM (peekE 1) (cE (.int 1))) (bin2 ixDM (peekE 2) (cE (.int 2)))) (bin2 mulM (bin2 ixDM (peekE 2) (cE (.int 1))) (bin2 ixDM (peekE 1) (cE (.int 2))))))) (seqS (setS 4 (bin2 mulM (bin2 ixDM (peekE 0) (cE (.int 1))) (bin2 subM (bin2 mulM (bin2 ixDM (peekE 1) (cE (.int 0))) (bin2 ixDM (peekE 2) (cE (.int 2)))) (bin2 mulM (bin2 ixDM (peekE 2) (cE (.int 0))) (bin2 ixDM (peekE 1) (cE (.int 2))))))) (retS (callE (callN 1 F_sign_of) [] (consA (bin2 addM (bin2 subM (peekE 3) (peekE 4)) (bin2 mulM (bin2 ixDM (peekE 0) (cE (.int 2))) (bin2 subM (bin2 mulM (bin2 ixDM (peekE 1) (cE (.int 0))) (bin2 ixDM (peekE 2) (cE (.int 1)))) (bin2 mulM (bin2 ixDM (peekE 2) (cE (.int 0))) (bin2 ixDM (peekE 1) (cE (.int 1))))))) nilA)))))
def F_turn_of : List MV → MH → Res MV := bodyF 5 3 b_turn_of
theorem fb_turn_of (M : Md fa fn ex K mg) : FnB R.prog w K mg base 2 "turn_of" ["one", "other", "third"] 3 d_turn_of F_turn_of := by
  refine M.fb (N := ["one", "other", "third", "first", "second"]) (ps := ["one", "other", "third"]) 33 (d := d_turn_of) rfl (M.glo 29) rfl ⟨rfl, rfl, rfl, by decide +kernel, rfl, by decide +kernel, by decide +kernel⟩ rfl fun X J hp W tk => ?_
  have v_one : NmV _ "one" 0 := J.v (by decide +kernel)
  have v_other : NmV _ "other" 1 := J.v (by decide +kernel)
  have v_third : NmV _ "third" 2 := J.v (by decide +kernel)
  have a_first : NmA _ "first" 3 := J.a (by decide +kernel)
  have a_second : NmA _ "second" 4 := J.a (by decide +kernel)
  have v_first : NmV _ "first" 3 := J.v (by decide +kernel)
  have v_second : NmV _ "second" 4 := J.v (by decide +kernel)
  have g_sign_of : NmG _ "sign_of" := J.g (by decide +kernel)
  exact (ss_cons (a_first.set (se_bin op_mulM vp_mul (toP (se_at J.units (fun _ _ => rfl) (fun _ _ => rfl) v_one.peek (toP se_int))) (toP (se_bin op_subM vp_sub (toP (se_bin op_mulM vp_mul (toP (se_at J.units (fun _ _ => rfl) (fun _ _ => rfl) v_other.peek (toP se_int))) (toP (se_at J.units (fun _ _ => rfl) (fun _ _ => rfl) v_third.peek (toP se_int))))) (toP (se_bin op_mulM vp_mul (toP (se_at J.units (fun _ _ => rfl) (fun _ _ => rfl) v_third.peek (toP se_int))) (toP (se_at J.units (fun _ _ => rfl) (fun _ _ => rfl) v_other.peek (toP se_int))))))))) (ss_cons (a_second.set (se_bin op_mulM vp_mul (toP (se_at J.units (fun _ _ => rfl) (fun _ _ => rfl) v_one.peek (toP se_int))) (toP (se_bin op_subM vp_sub (toP (se_bin op_mulM vp_mul (toP (se_at J.units (fun _ _ => rfl) (fun _ _ => rfl) v_other.peek (toP se_int))) (toP (se_at J.units (fun _ _ => rfl) (fun _ _ => rfl) v_third.peek (toP se_int))))) (toP (se_bin op_mulM vp_mul (toP (se_at J.units (fun _ _ => rfl) (fun _ _ => rfl) v_third.peek (toP se_int))) (toP (se_at J.units (fun _ _ => rfl) (fun _ _ => rfl) v_other.peek (toP se_int))))))))) (ss_one (ss_ret (J.call tk (f_sign_of M) (by decide) g_sign_of (sa_cons (se_bin op_addM vp_add (toP (se_bin op_subM vp_sub v_first.peek v_second.peek)) (toP (se_bin op_mulM vp_mul (toP (se_at J.units (fun _ _ => rfl) (fun _ _ => rfl) v_one.peek (toP se_int))) (toP (se_bin op_subM vp_sub (toP (se_bin op_mulM vp_mul (toP (se_at J.units (fun _ _ => rfl) (fun _ _ => rfl) v_other.peek (toP se_int))) (toP (se_at J.units (fun _ _ => rfl) (fun _ _ => rfl) v_third.peek (toP se_int))))) (toP (se_bin op_mulM vp_mul (toP (se_at J.units (fun _ _ => rfl) (fun _ _ => rfl) v_third.peek (toP se_int))) (toP (se_at J.units (fun _ _ => rfl) (fun _ _ => rfl) v_other.peek (toP se_int)))))))))) sa_nil))))))
theorem f_turn_of (M : Md fa fn ex K mg) : FnS R.prog w K mg base 2 "turn_of" 3 [] F_turn_of := (fb_turn_of M).s (fun fd F => Md.bindN F fun _ _ _ _ _ _ us hl => match us, hl with | [_, _, _], _ => rfl)
def b_is_same : SM := (retS (andE (bin2 eqM (bin2 mulM (bin2 ixDM (peekE 0) (cE (.int 0))) (bin2 ixDM (peekE 1) (cE (.int 2)))) (bin2 mulM (bin2 ixDM (peekE 1) (cE (.int 0))) (bin2 ixDM (peekE 0) (cE (.int 2))))) (bin2 eqM (bin2 mulM (bin2 ixDM (peekE 0) (cE (.int 1))) (bin2 ixDM (peekE 1) (cE (.int 2)))) (bin2 mulM (bin2 ixDM (peekE 1) (cE (.int 1))) (bin2 ixDM (peekE 0) (cE (.int 2)))))))
def F_is_same : List MV → MH → Res MV := bodyF 2 2 b_is_same
theorem fb_is_same (M : Md fa fn ex K mg) : FnB R.prog w K mg base 1 "is_same" ["one", "other"] 2 d_is_same F_is_same := by
  refine M.fb (N := ["one", "other"]) (ps := ["one", "other"]) 34 (d := d_is_same) rfl (M.glo 30) rfl ⟨rfl, rfl, rfl, by decide +kernel, rfl, by decide +kernel, by decide +kernel⟩ rfl fun X J hp W tk => ?_
  have v_one : NmV _ "one" 0 := J.v (by decide +kernel)
  have v_other : NmV _ "other" 1 := J.v (by decide +kernel)
  exact (ss_one (ss_ret (se_and (se_cmp J.opEq vp_eq (nomark _) (toP (se_bin op_mulM vp_mul (toP (se_at J.units (fun _ _ => rfl) (fun _ _ => rfl) v_one.peek (toP se_int))) (toP (se_at J.units (fun _ _ => rfl) (fun _ _ => rfl) v_other.peek (toP se_int))))) (toP (se_bin op_mulM vp_mul (toP (se_at J.units (fun _ _ => rfl) (fun _ _ => rfl) v_other.peek (toP se_int))) (toP (se_at J.units (fun _ _ => rfl) (fun _ _ => rfl) v_one.peek (toP se_int)))))) (se_one (se_cmp J.opEq vp_eq (nomark _) (toP (se_bin op_mulM vp_mul (toP (se_at J.units (fun _ _ => rfl) (fun _ _ => rfl) v_one.peek (toP se_int))) (toP (se_at J.units (fun _ _ => rfl) (fun _ _ => rfl) v_other.peek (toP se_int))))) (toP (se_bin op_mulM vp_mul (toP (se_at J.units (fun _ _ => rfl) (fun _ _ => rfl) v_other.peek (toP se_int))) (toP (se_at J.units (fun _ _ => rfl) (fun _ _ => rfl) v_one.peek (toP se_int))))))))))
theorem f_is_same (M : Md fa fn ex K mg) : FnS R.prog w K mg base 1 "is_same" 2 [] F_is_same := (fb_is_same M).s (fun fd F => Md.bindN F fun _ _ _ _ _ _ us hl => match us, hl with | [_, _], _ => rfl)
def b_compared : SM := (retS (callE (callN 1 F_sign_of) [] (consA (bin2 subM (bin2 mulM (bin2 ixDM (peekE 0) (peekE 2)) (bin2 ixDM (peekE 1) (cE (.int 2)))) (bin2 mulM (bin2 ixDM (peekE 1) (peekE 2)) (bin2 ixDM (peekE 0) (cE (.int 2))))) nilA)))
def F_compared : List MV → MH → Res MV := bodyF 3 3 b_compared
theorem fb_compared (M : Md fa fn ex K mg) : FnB R.prog w K mg base 2 "compared" ["one", "other", "way"] 3 d_compared F_compared := by
  refine M.fb (N := ["one", "other", "way"]) (ps := ["one", "other", "way"]) 35 (d := d_compared) rfl (M.glo 31) rfl ⟨rfl, rfl, rfl, by decide +kernel, rfl, by decide +kernel, by decide +kernel⟩ rfl fun X J hp W tk => ?_
  have v_one : NmV _ "one" 0 := J.v (by decide +kernel)
  have v_way : NmV _ "way" 2 := J.v (by decide +kernel)
  have v_other : NmV _ "other" 1 := J.v (by decide +kernel)
  have g_sign_of : NmG _ "sign_of" := J.g (by decide +kernel)
  exact (ss_one (ss_ret (J.call tk (f_sign_of M) (by decide) g_sign_of (sa_cons (se_bin op_subM vp_sub (toP (se_bin op_mulM vp_mul (toP (se_at J.units (fun _ _ => rfl) (fun _ _ => rfl) v_one.peek v_way.peek)) (toP (se_at J.units (fun _ _ => rfl) (fun _ _ => rfl) v_other.peek (toP se_int))))) (toP (se_bin op_mulM vp_mul (toP (se_at J.units (fun _ _ => rfl) (fun _ _ => rfl) v_other.peek v_way.peek)) (toP (se_at J.units (fun _ _ => rfl) (fun _ _ => rfl) v_one.peek (toP se_int)))))) sa_nil))))
theorem f_compared (M : Md fa fn ex K mg) : FnS R.prog w K mg base 2 "compared" 3 [] F_compared := (fb_compared M).s (fun fd F => Md.bindN F fun _ _ _ _ _ _ us hl => match us, hl with | [_, _, _], _ => rfl)
def b_is_on_triples : SM := (seqS (ifS (tstE (bin2 neM (callE (callN 3 F_turn_of) [] (consA (varE 0) (consA (varE 1) (consA (varE 2) nilA)))) (cE (.int 0)))) (retS (cE (.bl false))) nextS) (retS (callB allBM (consA (wrapL (compO [3] (itAny (tupE (consA (cE (.int 0)) (consA (cE (.int 1)) nilA)))) (nameT 3) yesT (bin2 leM (bin2 mulM (callE (callN 3 F_compared) [] (consA (varE 0) (consA (varE 1) (consA (varE 3) nilA)))) (callE (callN 3 F_compared) [] (consA (varE 0) (consA (varE 2) (consA (varE 3) nilA))))) (cE (.int 0))))) nilA))))
def F_is_on_triples : List MV → MH → Res MV := bodyF 4 3 b_is_on_triples
theorem fb_is_on_triples (M : Md fa fn ex K mg) : FnB R.prog w K mg base 3 "is_on_triples" ["point", "one", "other"] 3 d_is_on_triples F_is_on_triples := by
  refine M.fb (N := ["point", "one", "other", "way"]) (ps := ["point", "one", "other"]) 36 (d := d_is_on_triples) rfl (M.glo 32) rfl ⟨rfl, rfl, rfl, by decide +kernel, rfl, by decide +kernel, by decide +kernel⟩ rfl fun X J hp W tk => ?_
  have v_other : NmV _ "other" 2 := J.v (by decide +kernel)
  have v_one : NmV _ "one" 1 := J.v (by decide +kernel)
  have v_point : NmV _ "point" 0 := J.v (by decide +kernel)
  have g_turn_of : NmG _ "turn_of" := J.g (by decide +kernel)
  have b_all : NmB _ "all" (.builtin "all") := J.b (m_all M) bt_all (by decide +kernel)
  exact (ss_cons (ss_if (st_cmp J.opNe vp_ne (nomark _) (toP (J.call tk (f_turn_of M) (by decide) g_turn_of (sa_cons v_point.var (sa_cons v_one.var (sa_cons v_other.var sa_nil))))) (toP se_int)) (ss_one (ss_ret se_bl)) ss_nil) (ss_one (ss_ret (se_callB (cr_all J.calm) vp_all b_all (spa_cons (toP (ofO (J.compJ (vs := [("way", 3)]) (toIP (si_any (se_tup (sa_cons se_int (sa_cons se_int sa_nil))))) (by decide +kernel) (fun s H C cl fp J => by
  have a_way : NmA _ "way" 3 := J.a (by decide +kernel)
  exact a_way.tg) (fun s H C cl fp J => sts_nil) (fun s H C cl fp J => by
  have v_way : NmV _ "way" 3 := J.v (by decide +kernel)
  have v_one : NmV _ "one" 1 := J.v (by decide +kernel)
  have v_point : NmV _ "point" 0 := J.v (by decide +kernel)
  have g_compared : NmG _ "compared" := J.g (by decide +kernel)
  have v_other : NmV _ "other" 2 := J.v (by decide +kernel)
  exact (se_cmp op_leM vp_le (nomark _) (toP (se_bin op_mulM vp_mul (toP (J.call takes_no (f_compared M) (by decide) g_compared (sa_cons v_point.var (sa_cons v_one.var (sa_cons v_way.var sa_nil))))) (toP (J.call takes_no (f_compared M) (by decide) g_compared (sa_cons v_point.var (sa_cons v_other.var (sa_cons v_way.var sa_nil))))))) (toP se_int))) (by decide)))) spa_nil)))))
theorem f_is_on_triples (M : Md fa fn ex K mg) : FnS R.prog w K mg base 3 "is_on_triples" 3 [] F_is_on_triples := (fb_is_on_triples M).s (fun fd F => Md.bindN F fun _ _ _ _ _ _ us hl => match us, hl with | [_, _, _], _ => rfl)
def b_walls_of : SM := (retS (wrapL (lzipO (consA (peekE 0) (consA (bin2 addM (slV (peekE 0) (prtP (cE (.int 1))) noP) (slV (peekE 0) noP (prtP (cE (.int 1))))) nilA)))))
def F_walls_of : List MV → MH → Res MV := bodyF 1 1 b_walls_of
theorem fb_walls_of (M : Md fa fn ex K mg) : FnB R.prog w K mg base 1 "walls_of" ["corners"] 1 d_walls_of F_walls_of := by
  refine M.fb (N := ["corners"]) (ps := ["corners"]) 37 (d := d_walls_of) rfl (M.glo 33) rfl ⟨rfl, rfl, rfl, by decide +kernel, rfl, by decide +kernel, by decide +kernel⟩ rfl fun X J hp W tk => ?_
  have v_corners : NmV _ "corners" 0 := J.v (by decide +kernel)
  have b_list : NmB _ "list" (.type "list") := J.b (m_list M) bt_list (by decide +kernel)
  have b_zip : NmB _ "zip" (.type "zip") := J.b (m_zip M) bt_zip (by decide +kernel)
  exact (ss_one (ss_ret (ofO (so_lzip J.calm b_list b_zip (spa_cons v_corners.peek (spa_cons (toP (se_bin op_addM vp_add (toP (se_slV v_corners.peek (spo_some (toP se_int)) spo_none)) (toP (se_slV v_corners.peek spo_none (spo_some (toP se_int)))))) spa_nil))))))
theorem f_walls_of (M : Md fa fn ex K mg) : FnS R.prog w K mg base 1 "walls_of" 1 [] F_walls_of := (fb_walls_of M).s (fun fd F => Md.bindN F fun _ _ _ _ _ _ us hl => match us, hl with | [_], _ => rfl)
def b_where_at : SM := (seqS (setS 2 (cE (.bl false))) (seqS (forS (tupT 2 (consT (nameT 3) (consT (nameT 4) nilT))) (itAny (callE (callN 1 F_walls_of) [] (consA (varE 0) nilA))) (seqS (ifS (tstE (callE (callN 2 F_is_same) [] (consA (varE 1) (consA (varE 3) nilA)))) (retS (cE (.str [99, 111, 114, 110, 101, 114]))) nextS) (seqS (ifS (andT (notT (tstE (callE (callN 2 F_is_same) [] (consA (varE 1) (consA (varE 4) nilA))))) (tstE (callE (callN 3 F_is_on_triples) [] (consA (varE 1) (consA (varE 3) (consA (varE 4) nilA)))))) (retS (cE (.str [119, 97, 108, 108]))) nextS) (seqS (par2S 5 6 (.v (bin2 ltM (callE (callN 3 F_compared) [] (consA (varE 1) (consA (varE 3) (consA (cE (.int 1)) nilA)))) (cE (.int 0)))) (.v (bin2 ltM (callE (callN 3 F_compared) [] (consA (varE 1) (consA (varE 4) (consA (cE (.int 1)) nilA)))) (cE (.int 0))))) (ifS (andT (tstE (bin2 neM (peekE 5) (peekE 6))) (tstE (bin2 eqM (bin2 gtM (callE (callN 3 F_turn_of) [] (consA (varE 3) (consA (varE 4) (consA (varE 1) nilA)))) (cE (.int 0))) (peekE 6)))) (setS 2 (un1 notM (varE 2))) nextS))))) (retS (ifE (tstE (varE 2)) (cE (.str [105, 110, 115, 105, 100, 101])) (cE (.str [111, 117, 116, 115, 105, 100, 101]))))))
def F_where_at : List MV → MH → Res MV := bodyF 7 2 b_where_at
theorem fb_where_at (M : Md fa fn ex K mg) : FnB R.prog w K mg base 4 "where_at" ["corners", "point"] 2 d_where_at F_where_at := by
  refine M.fb (N := ["corners", "point", "is_inside", "one", "other", "low", "high"]) (ps := ["corners", "point"]) 38 (d := d_where_at) rfl (M.glo 34) rfl ⟨rfl, rfl, rfl, by decide +kernel, rfl, by decide +kernel, by decide +kernel⟩ rfl fun X J hp W tk => ?_
  have a_is_inside : NmA _ "is_inside" 2 := J.a (by decide +kernel)
  have v_corners : NmV _ "corners" 0 := J.v (by decide +kernel)
  have g_walls_of : NmG _ "walls_of" := J.g (by decide +kernel)
  have a_other : NmA _ "other" 4 := J.a (by decide +kernel)
  have a_one : NmA _ "one" 3 := J.a (by decide +kernel)
  have v_one : NmV _ "one" 3 := J.v (by decide +kernel)
  have v_point : NmV _ "point" 1 := J.v (by decide +kernel)
  have g_is_same : NmG _ "is_same" := J.g (by decide +kernel)
  have v_other : NmV _ "other" 4 := J.v (by decide +kernel)
  have g_is_on_triples : NmG _ "is_on_triples" := J.g (by decide +kernel)
  have a_low : NmA _ "low" 5 := J.a (by decide +kernel)
  have a_high : NmA _ "high" 6 := J.a (by decide +kernel)
  have g_compared : NmG _ "compared" := J.g (by decide +kernel)
  have v_low : NmV _ "low" 5 := J.v (by decide +kernel)
  have v_high : NmV _ "high" 6 := J.v (by decide +kernel)
  have g_turn_of : NmG _ "turn_of" := J.g (by decide +kernel)
  have v_is_inside : NmV _ "is_inside" 2 := J.v (by decide +kernel)
  exact (ss_cons (a_is_inside.set se_bl) (ss_cons (ss_for hp J.calm (si_any (J.call tk (f_walls_of M) (by decide) g_walls_of (sa_cons v_corners.var sa_nil))) (sg_tup J.calm (sgs_cons a_one.tg (sgs_cons a_other.tg sgs_nil))) (ss_cons (ss_if (st_val (J.call tk (f_is_same M) (by decide) g_is_same (sa_cons v_point.var (sa_cons v_one.var sa_nil)))) (ss_one (ss_ret (se_str (by decide +kernel)))) ss_nil) (ss_cons (ss_if (sw_and (st_not (st_val (J.call tk (f_is_same M) (by decide) g_is_same (sa_cons v_point.var (sa_cons v_other.var sa_nil))))) (sw_and1 (st_val (J.call tk (f_is_on_triples M) (by decide) g_is_on_triples (sa_cons v_point.var (sa_cons v_one.var (sa_cons v_other.var sa_nil))))))).pt (ss_one (ss_ret (se_str (by decide +kernel)))) ss_nil) (ss_cons (J.par2 (a := (.v (bin2 ltM (callE (callN 3 F_compared) [] (consA (varE 1) (consA (varE 3) (consA (cE (.int 1)) nilA)))) (cE (.int 0))))) (b := (.v (bin2 ltM (callE (callN 3 F_compared) [] (consA (varE 1) (consA (varE 4) (consA (cE (.int 1)) nilA)))) (cE (.int 0))))) a_low a_high (by decide) (by decide +kernel) (by decide +kernel) (se_cmp op_ltM vp_lt (nomark _) (toP (J.call tk (f_compared M) (by decide) g_compared (sa_cons v_point.var (sa_cons v_one.var (sa_cons se_int sa_nil))))) (toP se_int)) (se_cmp op_ltM vp_lt (nomark _) (toP (J.call tk (f_compared M) (by decide) g_compared (sa_cons v_point.var (sa_cons v_other.var (sa_cons se_int sa_nil))))) (toP se_int)) (by rfl)) (ss_one (ss_if (sw_and (st_cmp J.opNe vp_ne (nomark _) v_low.peek v_high.peek) (sw_and1 (st_cmp J.opEq vp_eq (nomark _) (toP (se_cmp op_gtM vp_gt (nomark _) (toP (J.call tk (f_turn_of M) (by decide) g_turn_of (sa_cons v_one.var (sa_cons v_other.var (sa_cons v_point.var sa_nil))))) (toP se_int))) v_high.peek))).pt (ss_one (a_is_inside.set (se_not v_is_inside.var))) ss_nil)))))) (ss_one (ss_ret (se_if (st_val v_is_inside.var) (se_str (by decide +kernel)) (se_str (by decide +kernel)))))))
theorem f_where_at (M : Md fa fn ex K mg) : FnS R.prog w K mg base 4 "where_at" 2 [] F_where_at := (fb_where_at M).s (fun fd F => Md.bindN F fun _ _ _ _ _ _ us hl => match us, hl with | [_, _], _ => rfl)
def b_triples_of : SM := (retS (wrapL (compO [1] (itAny (varE 0)) (nameT 1) yesT (callE (callN 1 F_triple_of) [] (consA (varE 1) nilA)))))
def F_triples_of : List MV → MH → Res MV := bodyF 2 1 b_triples_of
theorem fb_triples_of (M : Md fa fn ex K mg) : FnB R.prog w K mg base 2 "triples_of" ["points"] 1 d_triples_of F_triples_of := by
  refine M.fb (N := ["points", "point"]) (ps := ["points"]) 39 (d := d_triples_of) rfl (M.glo 35) rfl ⟨rfl, rfl, rfl, by decide +kernel, rfl, by decide +kernel, by decide +kernel⟩ rfl fun X J hp W tk => ?_
  have v_points : NmV _ "points" 0 := J.v (by decide +kernel)
  exact (ss_one (ss_ret (ofO (J.compJ (vs := [("point", 1)]) (toIP (si_any v_points.var)) (by decide +kernel) (fun s H C cl fp J => by
  have a_point : NmA _ "point" 1 := J.a (by decide +kernel)
  exact a_point.tg) (fun s H C cl fp J => sts_nil) (fun s H C cl fp J => by
  have v_point : NmV _ "point" 1 := J.v (by decide +kernel)
  have g_triple_of : NmG _ "triple_of" := J.g (by decide +kernel)
  exact (J.call takes_no (f_triple_of M) (by decide) g_triple_of (sa_cons v_point.var sa_nil))) (by decide)))))
theorem f_triples_of (M : Md fa fn ex K mg) : FnS R.prog w K mg base 2 "triples_of" 1 [] F_triples_of := (fb_triples_of M).s (fun fd F => Md.bindN F fun _ _ _ _ _ _ us hl => match us, hl with | [_], _ => rfl)
def b_check_sizes : SM := (seqS (ifS (notT (tstE (callE (callN 2 F_is_count) [.int (0)] (consA (varE 0) nilA)))) noS nextS) (ifS (notT (tstE (callE (callN 2 F_is_count) [.int (0)] (consA (varE 1) nilA)))) noS nextS))
def F_check_sizes : List MV → MH → Res MV := bodyF 2 2 b_check_sizes
theorem fb_check_sizes (M : Md fa fn ex K mg) : FnB R.prog w K mg base 3 "check_sizes" ["wide", "high"] 2 d_check_sizes F_check_sizes := by
  refine M.fb (N := ["wide", "high"]) (ps := ["wide", "high"]) 40 (d := d_check_sizes) rfl (M.glo 36) rfl ⟨rfl, rfl, rfl, by decide +kernel, rfl, by decide +kernel, by decide +kernel⟩ rfl fun X J hp W tk => ?_
  have v_wide : NmV _ "wide" 0 := J.v (by decide +kernel)
  have g_is_count : NmG _ "is_count" := J.g (by decide +kernel)
  have v_high : NmV _ "high" 1 := J.v (by decide +kernel)
  exact (ss_cons (ss_if (st_not (st_val (J.call tk (f_is_count_1 M) (by decide) g_is_count (sa_cons v_wide.var sa_nil)))) (ss_one ss_no) ss_nil) (ss_one (ss_if (st_not (st_val (J.call tk (f_is_count_1 M) (by decide) g_is_count (sa_cons v_high.var sa_nil)))) (ss_one ss_no) ss_nil)))
theorem f_check_sizes (M : Md fa fn ex K mg) : FnS R.prog w K mg base 3 "check_sizes" 2 [] F_check_sizes := (fb_check_sizes M).s (fun fd F => Md.bindN F fun _ _ _ _ _ _ us hl => match us, hl with | [_, _], _ => rfl)
def b_pictured : SM := (retS (strE (cE (.str [10])) fun s => un1 (fun h x => joinM s h [x]) (wrapL (compO [1] (itAny (wrapL (revO (peekE 0)))) (nameT 1) yesT (strE (cE (.str [])) fun s => un1 (fun h x => joinM s h [x]) (peekE 1))))))
def F_pictured : List MV → MH → Res MV := bodyF 2 1 b_pictured
theorem fb_pictured (M : Md fa fn ex K mg) : FnB R.prog w K mg base 1 "pictured" ["signs"] 1 d_pictured F_pictured := by
  refine M.fb (N := ["signs", "row"]) (ps := ["signs"]) 41 (d := d_pictured) rfl (M.glo 37) rfl ⟨rfl, rfl, rfl, by decide +kernel, rfl, by decide +kernel, by decide +kernel⟩ rfl fun X J hp W tk => ?_
  have v_signs : NmV _ "signs" 0 := J.v (by decide +kernel)
  exact (ss_one (ss_ret (se_join (toP (se_str (by decide +kernel))) (toP (ofO (J.compJ (vs := [("row", 1)]) (toIP (si_any (ofO (so_rev v_signs.peek)))) (by decide +kernel) (fun s H C cl fp J => by
  have a_row : NmA _ "row" 1 := J.a (by decide +kernel)
  exact a_row.tg) (fun s H C cl fp J => sts_nil) (fun s H C cl fp J => by
  have v_row : NmV _ "row" 1 := J.v (by decide +kernel)
  exact (se_join (toP (se_str (by decide +kernel))) v_row.peek)) (by decide)))))))
theorem f_pictured (M : Md fa fn ex K mg) : FnS R.prog w K mg base 1 "pictured" 1 [] F_pictured := (fb_pictured M).s (fun fd F => Md.bindN F fun _ _ _ _ _ _ us hl => match us, hl with | [_], _ => rfl)
def b_room_picture : SM := (seqS (exprS (callE (callN 1 F_check_room) [] (consA (varE 0) nilA))) (seqS (exprS (callE (callN 2 F_check_sizes) [] (consA (varE 1) (consA (varE 2) nilA)))) (seqS (setS 3 (callE (callN 1 F_triples_of) [] (consA (varE 0) nilA))) (seqS (setS 4 (dispE (consD (cE (.str [99, 111, 114, 110, 101, 114])) (cE (.str [43])) (consD (cE (.str [119, 97, 108, 108])) (cE (.str [45])) (consD (cE (.str [105, 110, 115, 105, 100, 101])) (cE (.str [35])) (consD (cE (.str [111, 117, 116, 115, 105, 100, 101])) (cE (.str [46])) nilD)))))) (seqS (setS 5 (wrapL (compO [6] (itB rng1M (consA (bin2 addM (peekE 2) (cE (.int 1))) nilA)) (nameT 6) yesT (wrapL (compO [7] (itB rng1M (consA (bin2 addM (peekE 1) (cE (.int 1))) nilA)) (nameT 7) yesT (bin2 ixDM (peekE 4) (callE (callN 2 F_where_at) [] (consA (varE 3) (consA (tupE (consA (varE 7) (consA (varE 6) (consA (cE (.int 1)) nilA)))) nilA))))))))) (retS (callE (callN 1 F_pictured) [] (consA (varE 5) nilA))))))))
def F_room_picture : List MV → MH → Res MV := bodyF 8 3 b_room_picture
theorem fb_room_picture (M : Md fa fn ex K mg) : FnB R.prog w K mg base 10 "room_picture" ["room", "wide", "high"] 3 d_room_picture F_room_picture := by
  refine M.fb (N := ["room", "wide", "high", "corners", "words", "rows", "y", "x"]) (ps := ["room", "wide", "high"]) 42 (d := d_room_picture) rfl (M.glo 38) rfl ⟨rfl, rfl, rfl, by decide +kernel, rfl, by decide +kernel, by decide +kernel⟩ rfl fun X J hp W tk => ?_
  have v_room : NmV _ "room" 0 := J.v (by decide +kernel)
  have g_check_room : NmG _ "check_room" := J.g (by decide +kernel)
  have v_high : NmV _ "high" 2 := J.v (by decide +kernel)
  have v_wide : NmV _ "wide" 1 := J.v (by decide +kernel)
  have g_check_sizes : NmG _ "check_sizes" := J.g (by decide +kernel)
  have g_triples_of : NmG _ "triples_of" := J.g (by decide +kernel)
  have a_corners : NmA _ "corners" 3 := J.a (by decide +kernel)
  have a_words : NmA _ "words" 4 := J.a (by decide +kernel)
  have b_range : NmB _ "range" (.type "range") := J.b (m_range M) bt_range (by decide +kernel)
  have a_rows : NmA _ "rows" 5 := J.a (by decide +kernel)
  have v_rows : NmV _ "rows" 5 := J.v (by decide +kernel)
  have g_pictured : NmG _ "pictured" := J.g (by decide +kernel)
  exact (ss_cons (ss_expr (J.call tk (f_check_room M) (by decide) g_check_room (sa_cons v_room.var sa_nil))) (ss_cons (ss_expr (J.call tk (f_check_sizes M) (by decide) g_check_sizes (sa_cons v_wide.var (sa_cons v_high.var sa_nil)))) (ss_cons (a_corners.set (J.call tk (f_triples_of M) (by decide) g_triples_of (sa_cons v_room.var sa_nil))) (ss_cons (a_words.set (se_disp (sd_cons (se_str (by decide +kernel)) (se_str (by decide +kernel)) (sd_cons (se_str (by decide +kernel)) (se_str (by decide +kernel)) (sd_cons (se_str (by decide +kernel)) (se_str (by decide +kernel)) (sd_cons (se_str (by decide +kernel)) (se_str (by decide +kernel)) sd_nil)))) rfl rfl (List.cons_ne_nil _ _) (by decide))) (ss_cons (J.setLcJ a_rows (by decide +kernel) (by rfl) (vs := [("y", 6)]) (toIP (si_rng1 b_range (sa_cons (se_bin op_addM vp_add v_high.peek (toP se_int)) sa_nil))) (by decide +kernel) (fun s H C cl fp J => by
  have a_y : NmA _ "y" 6 := J.a (by decide +kernel)
  exact a_y.tg) (fun s H C cl fp J => sts_nil) (fun s H C cl fp J => by
  have v_wide : NmV _ "wide" 1 := J.v (by decide +kernel)
  have b_range : NmB _ "range" (.type "range") := J.b (m_range M) bt_range (by decide +kernel)
  exact (ofO (J.compJ (vs := [("x", 7)]) (toIP (si_rng1 b_range (sa_cons (se_bin op_addM vp_add v_wide.peek (toP se_int)) sa_nil))) (by decide +kernel) (fun s H C cl fp J => by
  have a_x : NmA _ "x" 7 := J.a (by decide +kernel)
  exact a_x.tg) (fun s H C cl fp J => sts_nil) (fun s H C cl fp J => by
  have v_words : NmV _ "words" 4 := J.v (by decide +kernel)
  have v_y : NmV _ "y" 6 := J.v (by decide +kernel)
  have v_x : NmV _ "x" 7 := J.v (by decide +kernel)
  have v_corners : NmV _ "corners" 3 := J.v (by decide +kernel)
  have g_where_at : NmG _ "where_at" := J.g (by decide +kernel)
  exact (se_at J.units (fun _ _ => rfl) (fun _ _ => rfl) v_words.peek (toP (J.call takes_no (f_where_at M) (by decide) g_where_at (sa_cons v_corners.var (sa_cons (se_tup (sa_cons v_x.var (sa_cons v_y.var (sa_cons se_int sa_nil)))) sa_nil)))))) (by decide)))) (by decide)) (ss_one (ss_ret (J.call tk (f_pictured M) (by decide) g_pictured (sa_cons v_rows.var sa_nil)))))))))
theorem f_room_picture (M : Md fa fn ex K mg) : FnS R.prog w K mg base 10 "room_picture" 3 [] F_room_picture := (fb_room_picture M).s (fun fd F => Md.bindN F fun _ _ _ _ _ _ us hl => match us, hl with | [_, _, _], _ => rfl)
theorem fk_room_picture_0_high_wide_room (M : Md fa fn ex K mg) : FnSK R.prog w K mg base 10 "room_picture" 3 0 ["high", "wide", "room"] [2, 1, 0] F_room_picture := (fb_room_picture M).kw rfl rfl fun _ _ _ _ _ _ us ws h1 h2 => match us, ws, h1, h2 with | [], [_, _, _], _, _ => rfl
def b__law_purse : SM := (seqS (setS 2 (callB sumM (consA (slV (peekE 0) (prtP (peekE 1)) (prtP (bin2 addM (peekE 1) (cE (.int 1))))) nilA))) (retS (newE (lstO (consA (bin2 modM (callB intM (consA (callB maxM (consA (bin2 subM (peekE 2) (bin2 powM (cE (.int 10)) (cE (.int 18)))) (consA (cE (.int 0)) nilA))) nilA)) (bin2 powM (bin2 powM (cE (.int 10)) (cE (.int 60))) (cE (.int 8)))) (consA (bin2 modM (callB intM (consA (peekE 2) nilA)) (cE (.int 2147483629))) (consA (cE (.int 0)) (consA (varE 1) nilA))))))))
def F__law_purse : List MV → MH → Res MV := bodyF 3 2 b__law_purse
theorem fb__law_purse (M : Md fa fn ex K mg) : FnB R.prog w K mg base 1 "_law_purse" ["script", "at"] 2 d__law_purse F__law_purse := by
  refine M.fb (N := ["script", "at", "seed"]) (ps := ["script", "at"]) 43 (d := d__law_purse) rfl (M.glo 39) rfl ⟨rfl, rfl, rfl, by decide +kernel, rfl, by decide +kernel, by decide +kernel⟩ rfl fun X J hp W tk => ?_
  have v_script : NmV _ "script" 0 := J.v (by decide +kernel)
  have v_at : NmV _ "at" 1 := J.v (by decide +kernel)
  have b_sum : NmB _ "sum" (.builtin "sum") := J.b (m_sum M) bt_sum (by decide +kernel)
  have a_seed : NmA _ "seed" 2 := J.a (by decide +kernel)
  have v_seed : NmV _ "seed" 2 := J.v (by decide +kernel)
  have b_int : NmB _ "int" (.type "int") := J.b (m_int M) bt_int (by decide +kernel)
  have b_max : NmB _ "max" (.builtin "max") := J.b (m_max M) bt_max (by decide +kernel)
  exact (ss_cons (a_seed.set (se_callB (cr_sum J.calm) vp_sum b_sum (spa_cons (toP (se_slV v_script.peek (spo_some v_at.peek) (spo_some (toP (se_bin op_addM vp_add v_at.peek (toP se_int)))))) spa_nil))) (ss_one (ss_ret (se_new (so_lst (sa_cons (se_bin op_modN vp_mod (toP (se_callT call_int1 vp_toInt b_int (spa_cons (toP (se_callB (cr_maxM J.calm) vp_max b_max (spa_cons (toP (se_bin op_subM vp_sub v_seed.peek (toP (se_bin op_powG vp_pow (toP se_int) (toP se_int))))) (spa_cons (toP se_int) spa_nil)))) spa_nil))) (toP (se_bin op_powG vp_pow (toP (se_bin op_powG vp_pow (toP se_int) (toP se_int))) (toP se_int)))) (sa_cons (se_bin op_modN vp_mod (toP (se_callT call_int1 vp_toInt b_int (spa_cons v_seed.peek spa_nil))) (toP se_int)) (sa_cons se_int (sa_cons v_at.var sa_nil)))))))))
theorem f__law_purse (M : Md fa fn ex K mg) : FnS R.prog w K mg base 1 "_law_purse" 2 [] F__law_purse := (fb__law_purse M).s (fun fd F => Md.bindN F fun _ _ _ _ _ _ us hl => match us, hl with | [_, _], _ => rfl)
def b__law_mixed : SM := (seqS (setS 3 (bin2 addM (bin2 mulM (peekE 0) (cE (.int 69069))) (bin2 mulM (bin2 mulM (cE (.int 104729)) (peekE 1)) (peekE 1)))) (seqS (setS 3 (bin2 modM (callB intM (consA (bin2 addM (bin2 addM (peekE 3) (bin2 mulM (cE (.int 7919)) (peekE 2))) (peekE 1)) nilA)) (cE (.int 2147483647)))) (seqS (setS 3 (bin2 modM (callB intM (consA (bin2 addM (bin2 mulM (peekE 3) (peekE 3)) (cE (.int 40503))) nilA)) (cE (.int 2147483629)))) (retS (bin2 modM (callB intM (consA (bin2 mulM (peekE 3) (cE (.int 48271))) nilA)) (cE (.int 2147483587)))))))
def F__law_mixed : List MV → MH → Res MV := bodyF 4 3 b__law_mixed
theorem fb__law_mixed (M : Md fa fn ex K mg) : FnB R.prog w K mg base 1 "_law_mixed" ["seed", "spin", "at"] 3 d__law_mixed F__law_mixed := by
  refine M.fb (N := ["seed", "spin", "at", "mixed"]) (ps := ["seed", "spin", "at"]) 44 (d := d__law_mixed) rfl (M.glo 40) rfl ⟨rfl, rfl, rfl, by decide +kernel, rfl, by decide +kernel, by decide +kernel⟩ rfl fun X J hp W tk => ?_
  have v_seed : NmV _ "seed" 0 := J.v (by decide +kernel)
  have v_spin : NmV _ "spin" 1 := J.v (by decide +kernel)
  have a_mixed : NmA _ "mixed" 3 := J.a (by decide +kernel)
  have v_mixed : NmV _ "mixed" 3 := J.v (by decide +kernel)
  have v_at : NmV _ "at" 2 := J.v (by decide +kernel)
  have b_int : NmB _ "int" (.type "int") := J.b (m_int M) bt_int (by decide +kernel)
  exact (ss_cons (a_mixed.set (se_bin op_addM vp_add (toP (se_bin op_mulM vp_mul v_seed.peek (toP se_int))) (toP (se_bin op_mulM vp_mul (toP (se_bin op_mulM vp_mul (toP se_int) v_spin.peek)) v_spin.peek)))) (ss_cons (a_mixed.set (se_bin op_modN vp_mod (toP (se_callT call_int1 vp_toInt b_int (spa_cons (toP (se_bin op_addM vp_add (toP (se_bin op_addM vp_add v_mixed.peek (toP (se_bin op_mulM vp_mul (toP se_int) v_at.peek)))) v_spin.peek)) spa_nil))) (toP se_int))) (ss_cons (a_mixed.set (se_bin op_modN vp_mod (toP (se_callT call_int1 vp_toInt b_int (spa_cons (toP (se_bin op_addM vp_add (toP (se_bin op_mulM vp_mul v_mixed.peek v_mixed.peek)) (toP se_int))) spa_nil))) (toP se_int))) (ss_one (ss_ret (se_bin op_modN vp_mod (toP (se_callT call_int1 vp_toInt b_int (spa_cons (toP (se_bin op_mulM vp_mul v_mixed.peek (toP se_int))) spa_nil))) (toP se_int)))))))
theorem f__law_mixed (M : Md fa fn ex K mg) : FnS R.prog w K mg base 1 "_law_mixed" 3 [] F__law_mixed := (fb__law_mixed M).s (fun fd F => Md.bindN F fun _ _ _ _ _ _ us hl => match us, hl with | [_, _, _], _ => rfl)
def b__law_draw : SM := (seqS (ifS (tstE (bin2 gtM (bin2 ixDM (peekE 0) (cE (.int 0))) (cE (.int 0)))) (seqS (setS 2 (bin2 modM (callB intM (consA (bin2 ixDM (peekE 0) (cE (.int 0))) nilA)) (peekE 1))) (seqS (setIxS (bin2 divM (bin2 ixDM (peekE 0) (cE (.int 0))) (peekE 1)) (varE 0) (cE (.int 0))) (retS (varE 2)))) nextS) (seqS (setS 3 (cE (.int 0))) (seqS (forS (nameT 4) (itB rng1M (consA (bin2 addM (cE (.int 1)) (bin2 divM (un1 bitsM (peekE 1)) (cE (.int 28)))) nilA)) (seqS (setIxS (bin2 addM (bin2 ixDM (peekE 0) (cE (.int 2))) (cE (.int 1))) (varE 0) (cE (.int 2))) (setS 3 (bin2 addM (bin2 mulM (peekE 3) (cE (.int 2147483587))) (callE (callN 3 F__law_mixed) [] (consA (bin2 ixDM (peekE 0) (cE (.int 1))) (consA (bin2 ixDM (peekE 0) (cE (.int 2))) (consA (bin2 ixDM (peekE 0) (cE (.int 3))) nilA)))))))) (retS (bin2 modM (callB intM (consA (peekE 3) nilA)) (peekE 1))))))
def F__law_draw : List MV → MH → Res MV := bodyF 5 2 b__law_draw
theorem fb__law_draw (M : Md fa fn ex K mg) : FnB R.prog w K mg base 2 "_law_draw" ["purse", "many"] 2 d__law_draw F__law_draw := by
  refine M.fb (N := ["purse", "many", "drawn", "found", "piece"]) (ps := ["purse", "many"]) 45 (d := d__law_draw) rfl (M.glo 41) rfl ⟨rfl, rfl, rfl, by decide +kernel, rfl, by decide +kernel, by decide +kernel⟩ rfl fun X J hp W tk => ?_
  have v_purse : NmV _ "purse" 0 := J.v (by decide +kernel)
  have b_int : NmB _ "int" (.type "int") := J.b (m_int M) bt_int (by decide +kernel)
  have v_many : NmV _ "many" 1 := J.v (by decide +kernel)
  have a_drawn : NmA _ "drawn" 2 := J.a (by decide +kernel)
  have v_drawn : NmV _ "drawn" 2 := J.v (by decide +kernel)
  have a_found : NmA _ "found" 3 := J.a (by decide +kernel)
  have b_range : NmB _ "range" (.type "range") := J.b (m_range M) bt_range (by decide +kernel)
  have a_piece : NmA _ "piece" 4 := J.a (by decide +kernel)
  have v_found : NmV _ "found" 3 := J.v (by decide +kernel)
  have g__law_mixed : NmG _ "_law_mixed" := J.g (by decide +kernel)
  exact (ss_cons (ss_if (st_cmp op_gtM vp_gt (nomark _) (toP (se_at J.units (fun _ _ => rfl) (fun _ _ => rfl) v_purse.peek (toP se_int))) (toP se_int)) (ss_cons (a_drawn.set (se_bin op_modN vp_mod (toP (se_callT call_int1 vp_toInt b_int (spa_cons (toP (se_at J.units (fun _ _ => rfl) (fun _ _ => rfl) v_purse.peek (toP se_int))) spa_nil))) v_many.peek)) (ss_cons (ss_setIx (se_bin op_fdivG vp_div (toP (se_at J.units (fun _ _ => rfl) (fun _ _ => rfl) v_purse.peek (toP se_int))) v_many.peek) v_purse.var se_int) (ss_one (ss_ret v_drawn.var)))) ss_nil) (ss_cons (a_found.set se_int) (ss_cons (ss_for hp J.calm (si_rng1 b_range (sa_cons (se_bin op_addM vp_add (toP se_int) (toP (se_bin op_fdivG vp_div (toP (se_bits v_many.peek)) (toP se_int)))) sa_nil)) a_piece.tg (ss_cons (ss_setIx (se_bin op_addM vp_add (toP (se_at J.units (fun _ _ => rfl) (fun _ _ => rfl) v_purse.peek (toP se_int))) (toP se_int)) v_purse.var se_int) (ss_one (a_found.set (se_bin op_addM vp_add (toP (se_bin op_mulM vp_mul v_found.peek (toP se_int))) (toP (J.call tk (f__law_mixed M) (by decide) g__law_mixed (sa_cons (se_at J.units (fun _ _ => rfl) (fun _ _ => rfl) v_purse.peek (toP se_int)) (sa_cons (se_at J.units (fun _ _ => rfl) (fun _ _ => rfl) v_purse.peek (toP se_int)) (sa_cons (se_at J.units (fun _ _ => rfl) (fun _ _ => rfl) v_purse.peek (toP se_int)) sa_nil)))))))))) (ss_one (ss_ret (se_bin op_modN vp_mod (toP (se_callT call_int1 vp_toInt b_int (spa_cons v_found.peek spa_nil))) v_many.peek))))))
theorem f__law_draw (M : Md fa fn ex K mg) : FnS R.prog w K mg base 2 "_law_draw" 2 [] F__law_draw := (fb__law_draw M).s (fun fd F => Md.bindN F fun _ _ _ _ _ _ us hl => match us, hl with | [_, _], _ => rfl)
def b__law_purses : SM := (retS (wrapL (compO [2] (itB rng1M (consA (callB maxM (consA (cE (.int 1)) (consA (callB minM (consA (peekE 1) (consA (callB lenM (consA (peekE 0) nilA)) nilA))) nilA))) nilA)) (nameT 2) yesT (callE (callN 2 F__law_purse) [] (consA (varE 0) (consA (varE 2) nilA))))))
def F__law_purses : List MV → MH → Res MV := bodyF 3 2 b__law_purses
theorem fb__law_purses (M : Md fa fn ex K mg) : FnB R.prog w K mg base 2 "_law_purses" ["script", "few"] 2 d__law_purses F__law_purses := by
  refine M.fb (N := ["script", "few", "at"]) (ps := ["script", "few"]) 46 (d := d__law_purses) rfl (M.glo 42) rfl ⟨rfl, rfl, rfl, by decide +kernel, rfl, by decide +kernel, by decide +kernel⟩ rfl fun X J hp W tk => ?_
  have v_script : NmV _ "script" 0 := J.v (by decide +kernel)
  have b_len : NmB _ "len" (.builtin "len") := J.b (m_len M) bt_len (by decide +kernel)
  have v_few : NmV _ "few" 1 := J.v (by decide +kernel)
  have b_min : NmB _ "min" (.builtin "min") := J.b (m_min M) bt_min (by decide +kernel)
  have b_max : NmB _ "max" (.builtin "max") := J.b (m_max M) bt_max (by decide +kernel)
  have b_range : NmB _ "range" (.type "range") := J.b (m_range M) bt_range (by decide +kernel)
  exact (ss_one (ss_ret (ofO (J.compJ (vs := [("at", 2)]) (toIP (si_rng1 b_range (sa_cons (se_callB (cr_maxM J.calm) vp_max b_max (spa_cons (toP se_int) (spa_cons (toP (se_callB (cr_minM J.calm) vp_min b_min (spa_cons v_few.peek (spa_cons (toP (se_callB call_len vp_len b_len (spa_cons v_script.peek spa_nil))) spa_nil)))) spa_nil))) sa_nil))) (by decide +kernel) (fun s H C cl fp J => by
  have a_at : NmA _ "at" 2 := J.a (by decide +kernel)
  exact a_at.tg) (fun s H C cl fp J => sts_nil) (fun s H C cl fp J => by
  have v_at : NmV _ "at" 2 := J.v (by decide +kernel)
  have v_script : NmV _ "script" 0 := J.v (by decide +kernel)
  have g__law_purse : NmG _ "_law_purse" := J.g (by decide +kernel)
  exact (J.call takes_no (f__law_purse M) (by decide) g__law_purse (sa_cons v_script.var (sa_cons v_at.var sa_nil)))) (by decide)))))
theorem f__law_purses (M : Md fa fn ex K mg) : FnS R.prog w K mg base 2 "_law_purses" 2 [] F__law_purses := (fb__law_purses M).s (fun fd F => Md.bindN F fun _ _ _ _ _ _ us hl => match us, hl with | [_, _], _ => rfl)
def b__law_one_of : SM := (retS (bin2 ixDM (peekE 1) (callE (callN 2 F__law_draw) [] (consA (varE 0) (consA (callB lenM (consA (peekE 1) nilA)) nilA)))))
def F__law_one_of : List MV → MH → Res MV := bodyF 2 2 b__law_one_of
theorem fb__law_one_of (M : Md fa fn ex K mg) : FnB R.prog w K mg base 3 "_law_one_of" ["purse", "some"] 2 d__law_one_of F__law_one_of := by
  refine M.fb (N := ["purse", "some"]) (ps := ["purse", "some"]) 47 (d := d__law_one_of) rfl (M.glo 43) rfl ⟨rfl, rfl, rfl, by decide +kernel, rfl, by decide +kernel, by decide +kernel⟩ rfl fun X J hp W tk => ?_
  have v_some : NmV _ "some" 1 := J.v (by decide +kernel)
  have b_len : NmB _ "len" (.builtin "len") := J.b (m_len M) bt_len (by decide +kernel)
  have v_purse : NmV _ "purse" 0 := J.v (by decide +kernel)
  have g__law_draw : NmG _ "_law_draw" := J.g (by decide +kernel)
  exact (ss_one (ss_ret (se_at J.units (fun _ _ => rfl) (fun _ _ => rfl) v_some.peek (toP (J.call tk (f__law_draw M) (by decide) g__law_draw (sa_cons v_purse.var (sa_cons (se_callB call_len vp_len b_len (spa_cons v_some.peek spa_nil)) sa_nil)))))))
theorem f__law_one_of (M : Md fa fn ex K mg) : FnS R.prog w K mg base 3 "_law_one_of" 2 [] F__law_one_of := (fb__law_one_of M).s (fun fd F => Md.bindN F fun _ _ _ _ _ _ us hl => match us, hl with | [_, _], _ => rfl)
def b__law_shuffled : SM := (seqS (ownS 2 (lstO nilA)) (seqS (forS (nameT 3) (itAny (varE 1)) (mutS 2 insertM (consA (callE (callN 2 F__law_draw) [] (consA (varE 0) (consA (bin2 addM (callB lenM (consA (peekE 2) nilA)) (cE (.int 1))) nilA))) (consA (varE 3) nilA)))) (fzS 2 (retS (varE 2)))))
def F__law_shuffled : List MV → MH → Res MV := bodyF 4 2 b__law_shuffled
theorem fb__law_shuffled (M : Md fa fn ex K mg) : FnB R.prog w K mg base 3 "_law_shuffled" ["purse", "some"] 2 d__law_shuffled F__law_shuffled := by
  refine M.fb (N := ["purse", "some", "found", "item"]) (ps := ["purse", "some"]) 48 (d := d__law_shuffled) rfl (M.glo 44) rfl ⟨rfl, rfl, rfl, by decide +kernel, rfl, by decide +kernel, by decide +kernel⟩ rfl fun X J hp W tk => ?_
  have a_found : NmA _ "found" 2 := J.a (by decide +kernel)
  have v_some : NmV _ "some" 1 := J.v (by decide +kernel)
  have a_item : NmA _ "item" 3 := J.a (by decide +kernel)
  have v_item : NmV _ "item" 3 := J.v (by decide +kernel)
  have v_found : NmV _ "found" 2 := J.v (by decide +kernel)
  have b_len : NmB _ "len" (.builtin "len") := J.b (m_len M) bt_len (by decide +kernel)
  have v_purse : NmV _ "purse" 0 := J.v (by decide +kernel)
  have g__law_draw : NmG _ "_law_draw" := J.g (by decide +kernel)
  exact (ss_cons (a_found.setO (so_lst sa_nil)) (ss_cons (ss_for hp J.calm (si_any v_some.var) a_item.tg (ss_one (ss_mut PySem.F.slot_list_insert PySem.F.type_list_insert mt_insert vm_insert v_found.raw (sa_cons (J.call tk (f__law_draw M) (by decide) g__law_draw (sa_cons v_purse.var (sa_cons (se_bin op_addM vp_add (toP (se_callB call_len vp_len b_len (spa_cons v_found.peek spa_nil))) (toP se_int)) sa_nil))) (sa_cons v_item.var sa_nil))))) (ss_fz 2 (ss_one (ss_ret v_found.var)))))
theorem f__law_shuffled (M : Md fa fn ex K mg) : FnS R.prog w K mg base 3 "_law_shuffled" 2 [] F__law_shuffled := (fb__law_shuffled M).s (fun fd F => Md.bindN F fun _ _ _ _ _ _ us hl => match us, hl with | [_, _], _ => rfl)
def b__law_exact (R : List MV → MH → Res MV) : SM := (seqS (ifS (tstE (un1 (isiM .dict) (peekE 0))) noS nextS) (seqS (ifS (tstE (un1 (isiTM [.list, .tuple]) (peekE 0))) (seqS (setS 2 (bin2 eqM (un1 (isiM .list) (peekE 1)) (un1 (isiM .list) (peekE 0)))) (seqS (setS 3 (andE (varE 2) (bin2 eqM (un1 (isiM .tuple) (peekE 1)) (un1 (isiM .tuple) (peekE 0))))) (retS (andE (varE 3) (andE (bin2 eqM (callB lenM (consA (peekE 0) nilA)) (callB lenM (consA (peekE 1) nilA))) (callB allBM (consA (wrapL (compO [5, 6] (itB zipM (consA (varE 0) (consA (varE 1) nilA))) (tupT 2 (consT (nameT 5) (consT (nameT 6) nilT))) yesT (callE (callN 2 R) [] (consA (varE 5) (consA (varE 6) nilA))))) nilA))))))) nextS) (seqS (ifS (orT (tstE (un1 (isiTM [.list, .tuple, .dict]) (peekE 1))) (tstE (bin2 neM (un1 isNM (peekE 0)) (un1 isNM (peekE 1))))) (retS (cE (.bl false))) nextS) (seqS (setS 3 (andE (bin2 eqM (un1 (isiM .int) (peekE 0)) (un1 (isiM .int) (peekE 1))) (bin2 eqM (un1 (isiM .str) (peekE 0)) (un1 (isiM .str) (peekE 1))))) (retS (andE (varE 3) (andE (bin2 eqM (un1 (isiM .bool) (peekE 0)) (un1 (isiM .bool) (peekE 1))) (bin2 eqM (peekE 0) (peekE 1)))))))))
def F__law_exact_ : Nat → List MV → MH → Res MV
  | 0 => bodyF 7 2 noS
  | k + 1 => bodyF 7 2 (b__law_exact (F__law_exact_ k))
def F__law_exact : List MV → MH → Res MV := F__law_exact_ 12
theorem fb__law_exact_ (M : Md fa fn ex K mg) : ∀ j : Nat, FnB R.prog w K mg base (0 + j + 1) "_law_exact" ["mine", "theirs"] 2 d__law_exact (F__law_exact_ j)
  | 0 => by
    refine M.fb (N := ["mine", "theirs", "is_list", "is_like", "key", "a", "b"]) (ps := ["mine", "theirs"]) 49 (d := d__law_exact) rfl (M.glo 45) rfl ⟨rfl, rfl, rfl, by decide +kernel, rfl, by decide +kernel, by decide +kernel⟩ rfl fun X J hp W tk => ?_
    exact ss_none
  | j + 1 => by
    have G := (fb__law_exact_ M j).s (fun fd F => Md.bindN F fun _ _ _ _ _ _ us hl => match us, hl with | [_, _], _ => rfl)
    refine M.fb (N := ["mine", "theirs", "is_list", "is_like", "key", "a", "b"]) (ps := ["mine", "theirs"]) 49 (d := d__law_exact) rfl (M.glo 45) rfl ⟨rfl, rfl, rfl, by decide +kernel, rfl, by decide +kernel, by decide +kernel⟩ rfl fun X J hp W tk => ?_
    have v_mine : NmV _ "mine" 0 := J.v (by decide +kernel)
    have b_isinstance : NmB _ "isinstance" (.builtin "isinstance") := J.b (m_isinstance M) bt_isinstance (by decide +kernel)
    have b_dict : NmB _ "dict" (.type "dict") := J.b (m_dict M) bt_dict (by decide +kernel)
    have b_tuple : NmB _ "tuple" (.type "tuple") := J.b (m_tuple M) bt_tuple (by decide +kernel)
    have b_list : NmB _ "list" (.type "list") := J.b (m_list M) bt_list (by decide +kernel)
    have v_theirs : NmV _ "theirs" 1 := J.v (by decide +kernel)
    have a_is_list : NmA _ "is_list" 2 := J.a (by decide +kernel)
    have v_is_list : NmV _ "is_list" 2 := J.v (by decide +kernel)
    have a_is_like : NmA _ "is_like" 3 := J.a (by decide +kernel)
    have v_is_like : NmV _ "is_like" 3 := J.v (by decide +kernel)
    have b_len : NmB _ "len" (.builtin "len") := J.b (m_len M) bt_len (by decide +kernel)
    have b_zip : NmB _ "zip" (.type "zip") := J.b (m_zip M) bt_zip (by decide +kernel)
    have b_all : NmB _ "all" (.builtin "all") := J.b (m_all M) bt_all (by decide +kernel)
    have b_int : NmB _ "int" (.type "int") := J.b (m_int M) bt_int (by decide +kernel)
    have b_str : NmB _ "str" (.type "str") := J.b (m_str M) bt_str (by decide +kernel)
    have b_bool : NmB _ "bool" (.type "bool") := J.b (m_bool M) bt_bool (by decide +kernel)
    exact (ss_cons (ss_if (st_val (se_isi (b := .dict) b_isinstance b_dict (by first | decide | omega) v_mine.peek)) ss_none ss_nil) (ss_cons (ss_if (st_val (se_isiT b_isinstance (sty_cons (b := .list) b_list (sty_cons (b := .tuple) b_tuple sty_nil)) (by first | decide | omega) (by first | decide | omega) v_mine.peek)) (ss_cons (a_is_list.set (se_cmp J.opEq vp_eq (nomark _) (toP (se_isi (b := .list) b_isinstance b_list (by first | decide | omega) v_theirs.peek)) (toP (se_isi (b := .list) b_isinstance b_list (by first | decide | omega) v_mine.peek)))) (ss_cons (a_is_like.set (se_and v_is_list.var (se_one (se_cmp J.opEq vp_eq (nomark _) (toP (se_isi (b := .tuple) b_isinstance b_tuple (by first | decide | omega) v_theirs.peek)) (toP (se_isi (b := .tuple) b_isinstance b_tuple (by first | decide | omega) v_mine.peek)))))) (ss_one (ss_ret (se_and v_is_like.var (se_and (se_cmp J.opEq vp_eq (nomark _) (toP (se_callB call_len vp_len b_len (spa_cons v_mine.peek spa_nil))) (toP (se_callB call_len vp_len b_len (spa_cons v_theirs.peek spa_nil)))) (se_one (se_callB (cr_all J.calm) vp_all b_all (spa_cons (toP (ofO (J.compJ (vs := [("a", 5), ("b", 6)]) (toIP (si_zip b_zip (sa_cons v_mine.var (sa_cons v_theirs.var sa_nil)))) (by decide +kernel) (fun s H C cl fp J => by
  have a_b : NmA _ "b" 6 := J.a (by decide +kernel)
  have a_a : NmA _ "a" 5 := J.a (by decide +kernel)
  exact (sg_tup J.calm (sgs_cons a_a.tg (sgs_cons a_b.tg sgs_nil)))) (fun s H C cl fp J => sts_nil) (fun s H C cl fp J => by
  have v_b : NmV _ "b" 6 := J.v (by decide +kernel)
  have v_a : NmV _ "a" 5 := J.v (by decide +kernel)
  have g__law_exact : NmG _ "_law_exact" := J.g (by decide +kernel)
  exact (J.call takes_no G (Nat.le_refl _) g__law_exact (sa_cons v_a.var (sa_cons v_b.var sa_nil)))) (by first | decide | omega)))) spa_nil))))))))) ss_nil) (ss_cons (ss_if (sw_or (st_val (se_isiT b_isinstance (sty_cons (b := .list) b_list (sty_cons (b := .tuple) b_tuple (sty_cons (b := .dict) b_dict sty_nil))) (by first | decide | omega) (by first | decide | omega) v_theirs.peek)) (sw_or1 (st_cmp J.opNe vp_ne (nomark _) (toP (se_isN v_mine.peek)) (toP (se_isN v_theirs.peek))))).pt (ss_one (ss_ret se_bl)) ss_nil) (ss_cons (a_is_like.set (se_and (se_cmp J.opEq vp_eq (nomark _) (toP (se_isi (b := .int) b_isinstance b_int (by first | decide | omega) v_mine.peek)) (toP (se_isi (b := .int) b_isinstance b_int (by first | decide | omega) v_theirs.peek))) (se_one (se_cmp J.opEq vp_eq (nomark _) (toP (se_isi (b := .str) b_isinstance b_str (by first | decide | omega) v_mine.peek)) (toP (se_isi (b := .str) b_isinstance b_str (by first | decide | omega) v_theirs.peek)))))) (ss_one (ss_ret (se_and v_is_like.var (se_and (se_cmp J.opEq vp_eq (nomark _) (toP (se_isi (b := .bool) b_isinstance b_bool (by first | decide | omega) v_mine.peek)) (toP (se_isi (b := .bool) b_isinstance b_bool (by first | decide | omega) v_theirs.peek))) (se_one (se_cmp J.opEq vp_eq (nomark _) v_mine.peek v_theirs.peek))))))))))
theorem f__law_exact (M : Md fa fn ex K mg) : FnS R.prog w K mg base 13 "_law_exact" 2 [] F__law_exact := (fb__law_exact_ M 12).s (fun fd F => Md.bindN F fun _ _ _ _ _ _ us hl => match us, hl with | [_, _], _ => rfl)
def b__law_copied (R : List MV → MH → Res MV) : SM := (seqS (ifS (tstE (un1 (isiM .list) (peekE 0))) (retS (wrapL (compO [1] (itAny (varE 0)) (nameT 1) yesT (callE (callN 1 R) [] (consA (varE 1) nilA))))) nextS) (seqS (ifS (tstE (un1 (isiM .tuple) (peekE 0))) (retS (callB tupleM (consA (wrapL (compO [1] (itAny (varE 0)) (nameT 1) yesT (callE (callN 1 R) [] (consA (varE 1) nilA)))) nilA))) nextS) (seqS (ifS (tstE (un1 (isiM .dict) (peekE 0))) noS nextS) (retS (varE 0)))))
def F__law_copied_ : Nat → List MV → MH → Res MV
  | 0 => bodyF 3 1 noS
  | k + 1 => bodyF 3 1 (b__law_copied (F__law_copied_ k))
def F__law_copied : List MV → MH → Res MV := F__law_copied_ 12
theorem fb__law_copied_ (M : Md fa fn ex K mg) : ∀ j : Nat, FnB R.prog w K mg base (0 + j + 1) "_law_copied" ["thing"] 1 d__law_copied (F__law_copied_ j)
  | 0 => by
    refine M.fb (N := ["thing", "item", "key"]) (ps := ["thing"]) 50 (d := d__law_copied) rfl (M.glo 46) rfl ⟨rfl, rfl, rfl, by decide +kernel, rfl, by decide +kernel, by decide +kernel⟩ rfl fun X J hp W tk => ?_
    exact ss_none
  | j + 1 => by
    have G := (fb__law_copied_ M j).s (fun fd F => Md.bindN F fun _ _ _ _ _ _ us hl => match us, hl with | [_], _ => rfl)
    refine M.fb (N := ["thing", "item", "key"]) (ps := ["thing"]) 50 (d := d__law_copied) rfl (M.glo 46) rfl ⟨rfl, rfl, rfl, by decide +kernel, rfl, by decide +kernel, by decide +kernel⟩ rfl fun X J hp W tk => ?_
    have v_thing : NmV _ "thing" 0 := J.v (by decide +kernel)
    have b_isinstance : NmB _ "isinstance" (.builtin "isinstance") := J.b (m_isinstance M) bt_isinstance (by decide +kernel)
    have b_list : NmB _ "list" (.type "list") := J.b (m_list M) bt_list (by decide +kernel)
    have b_tuple : NmB _ "tuple" (.type "tuple") := J.b (m_tuple M) bt_tuple (by decide +kernel)
    have b_dict : NmB _ "dict" (.type "dict") := J.b (m_dict M) bt_dict (by decide +kernel)
    exact (ss_cons (ss_if (st_val (se_isi (b := .list) b_isinstance b_list (by first | decide | omega) v_thing.peek)) (ss_one (ss_ret (ofO (J.compJ (vs := [("item", 1)]) (toIP (si_any v_thing.var)) (by decide +kernel) (fun s H C cl fp J => by
  have a_item : NmA _ "item" 1 := J.a (by decide +kernel)
  exact a_item.tg) (fun s H C cl fp J => sts_nil) (fun s H C cl fp J => by
  have v_item : NmV _ "item" 1 := J.v (by decide +kernel)
  have g__law_copied : NmG _ "_law_copied" := J.g (by decide +kernel)
  exact (J.call takes_no G (Nat.le_refl _) g__law_copied (sa_cons v_item.var sa_nil))) (by first | decide | omega))))) ss_nil) (ss_cons (ss_if (st_val (se_isi (b := .tuple) b_isinstance b_tuple (by first | decide | omega) v_thing.peek)) (ss_one (ss_ret (se_callT call_tuple_of vp_tuple b_tuple (spa_cons (toP (ofO (J.compJ (vs := [("item", 1)]) (toIP (si_any v_thing.var)) (by decide +kernel) (fun s H C cl fp J => by
  have a_item : NmA _ "item" 1 := J.a (by decide +kernel)
  exact a_item.tg) (fun s H C cl fp J => sts_nil) (fun s H C cl fp J => by
  have v_item : NmV _ "item" 1 := J.v (by decide +kernel)
  have g__law_copied : NmG _ "_law_copied" := J.g (by decide +kernel)
  exact (J.call takes_no G (Nat.le_refl _) g__law_copied (sa_cons v_item.var sa_nil))) (by first | decide | omega)))) spa_nil)))) ss_nil) (ss_cons (ss_if (st_val (se_isi (b := .dict) b_isinstance b_dict (by first | decide | omega) v_thing.peek)) ss_none ss_nil) (ss_one (ss_ret v_thing.var)))))
theorem f__law_copied (M : Md fa fn ex K mg) : FnS R.prog w K mg base 13 "_law_copied" 1 [] F__law_copied := (fb__law_copied_ M 12).s (fun fd F => Md.bindN F fun _ _ _ _ _ _ us hl => match us, hl with | [_], _ => rfl)
def b__law_common : SM := (seqS (whileL (tstE (bin2 neM (peekE 1) (cE (.int 0)))) (par2S 0 1 (.v (varE 1)) (.v (bin2 modM (callB intM (consA (peekE 0) nilA)) (peekE 1)))) 1000000) (retS (callB absM (consA (peekE 0) nilA))))
def F__law_common : List MV → MH → Res MV := bodyF 2 2 b__law_common
theorem fb__law_common (M : Md fa fn ex K mg) : FnB R.prog w K mg base 1 "_law_common" ["one", "other"] 2 d__law_common F__law_common := by
  refine M.fb (N := ["one", "other"]) (ps := ["one", "other"]) 51 (d := d__law_common) rfl (M.glo 47) rfl ⟨rfl, rfl, rfl, by decide +kernel, rfl, by decide +kernel, by decide +kernel⟩ rfl fun X J hp W tk => ?_
  have v_other : NmV _ "other" 1 := J.v (by decide +kernel)
  have a_one : NmA _ "one" 0 := J.a (by decide +kernel)
  have a_other : NmA _ "other" 1 := J.a (by decide +kernel)
  have v_one : NmV _ "one" 0 := J.v (by decide +kernel)
  have b_int : NmB _ "int" (.type "int") := J.b (m_int M) bt_int (by decide +kernel)
  have b_abs : NmB _ "abs" (.builtin "abs") := J.b (m_abs M) bt_abs (by decide +kernel)
  exact (ss_cons (ss_while 1000000 hp (st_cmp J.opNe vp_ne (nomark _) v_other.peek (toP se_int)) (ss_one (J.par2 (a := (.v (varE 1))) (b := (.v (bin2 modM (callB intM (consA (peekE 0) nilA)) (peekE 1)))) a_one a_other (by decide) (by decide +kernel) (by decide +kernel) v_other.var (se_bin op_modN vp_mod (toP (se_callT call_int1 vp_toInt b_int (spa_cons v_one.peek spa_nil))) v_other.peek) (by rfl)))) (ss_one (ss_ret (se_callB call_abs vp_abs b_abs (spa_cons v_one.peek spa_nil)))))
theorem f__law_common (M : Md fa fn ex K mg) : FnS R.prog w K mg base 1 "_law_common" 2 [] F__law_common := (fb__law_common M).s (fun fd F => Md.bindN F fun _ _ _ _ _ _ us hl => match us, hl with | [_, _], _ => rfl)
def b__law_out : SM := (seqS (ownS 1 (lstO nilA)) (seqS (forS (nameT 2) (itAny (slV (peekE 0) noP (prtP (cE (.int 2))))) (seqS (setS 3 (callE (callN 2 F__law_common) [] (consA (varE 2) (consA (bin2 ixDM (peekE 0) (cE (.int 2))) nilA)))) (mutS 1 appendM (consA (tupE (consA (bin2 divM (peekE 2) (peekE 3)) (consA (bin2 divM (bin2 ixDM (peekE 0) (cE (.int 2))) (peekE 3)) nilA))) nilA)))) (retS (tupE (consA (bin2 ixDM (peekE 1) (cE (.int 0))) (consA (bin2 ixDM (peekE 1) (cE (.int 1))) nilA))))))
def F__law_out : List MV → MH → Res MV := bodyF 4 1 b__law_out
theorem fb__law_out (M : Md fa fn ex K mg) : FnB R.prog w K mg base 2 "_law_out" ["point"] 1 d__law_out F__law_out := by
  refine M.fb (N := ["point", "found", "above", "common"]) (ps := ["point"]) 52 (d := d__law_out) rfl (M.glo 48) rfl ⟨rfl, rfl, rfl, by decide +kernel, rfl, by decide +kernel, by decide +kernel⟩ rfl fun X J hp W tk => ?_
  have a_found : NmA _ "found" 1 := J.a (by decide +kernel)
  have v_point : NmV _ "point" 0 := J.v (by decide +kernel)
  have a_above : NmA _ "above" 2 := J.a (by decide +kernel)
  have v_above : NmV _ "above" 2 := J.v (by decide +kernel)
  have g__law_common : NmG _ "_law_common" := J.g (by decide +kernel)
  have a_common : NmA _ "common" 3 := J.a (by decide +kernel)
  have v_common : NmV _ "common" 3 := J.v (by decide +kernel)
  have v_found : NmV _ "found" 1 := J.v (by decide +kernel)
  exact (ss_cons (a_found.setO (so_lst sa_nil)) (ss_cons (ss_for hp J.calm (si_any (se_slV v_point.peek spo_none (spo_some (toP se_int)))) a_above.tg (ss_cons (a_common.set (J.call tk (f__law_common M) (by decide) g__law_common (sa_cons v_above.var (sa_cons (se_at J.units (fun _ _ => rfl) (fun _ _ => rfl) v_point.peek (toP se_int)) sa_nil)))) (ss_one (ss_mut PySem.F.slot_list_append PySem.F.type_list_append mt_append vm_append v_found.raw (sa_cons (se_tup (sa_cons (se_bin op_fdivG vp_div v_above.peek v_common.peek) (sa_cons (se_bin op_fdivG vp_div (toP (se_at J.units (fun _ _ => rfl) (fun _ _ => rfl) v_point.peek (toP se_int))) v_common.peek) sa_nil))) sa_nil))))) (ss_one (ss_ret (se_tup (sa_cons (se_at J.units (fun _ _ => rfl) (fun _ _ => rfl) v_found.peek (toP se_int)) (sa_cons (se_at J.units (fun _ _ => rfl) (fun _ _ => rfl) v_found.peek (toP se_int)) sa_nil)))))))
theorem f__law_out (M : Md fa fn ex K mg) : FnS R.prog w K mg base 2 "_law_out" 1 [] F__law_out := (fb__law_out M).s (fun fd F => Md.bindN F fun _ _ _ _ _ _ us hl => match us, hl with | [_], _ => rfl)
def b__law_det : SM := (seqS (setS 3 (bin2 mulM (bin2 ixDM (peekE 0) (cE (.int 0))) (bin2 subM (bin2 mulM (bin2 ixDM (peekE 1) (cE (.int 1))) (bin2 ixDM (peekE 2) (cE (.int 2)))) (bin2 mulM (bin2 ixDM (peekE 2) (cE (.int 1))) (bin2 ixDM (peekE 1) (cE (.int 2))))))) (seqS (setS 4 (bin2 mulM (bin2 ixDM (peekE 0) (cE (.int 1))) (bin2 subM (bin2 mulM (bin2 ixDM (peekE 1) (cE (.int 0))) (bin2 ixDM (peekE 2) (cE (.int 2)))) (bin2 mulM (bin2 ixDM (peekE 2) (cE (.int 0))) (bin2 ixDM (peekE 1) (cE (.int 2))))))) (seqS (setS 5 (bin2 addM (bin2 subM (peekE 3) (peekE 4)) (bin2 mulM (bin2 ixDM (peekE 0) (cE (.int 2))) (bin2 subM (bin2 mulM (bin2 ixDM (peekE 1) (cE (.int 0))) (bin2 ixDM (peekE 2) (cE (.int 1)))) (bin2 mulM (bin2 ixDM (peekE 2) (cE (.int 0))) (bin2 ixDM (peekE 1) (cE (.int 1)))))))) (retS (ifE (tstE (bin2 eqM (peekE 5) (cE (.int 0)))) (cE (.int 0)) (ifE (tstE (bin2 gtM (peekE 5) (cE (.int 0)))) (cE (.int 1)) (bin2 subM (cE (.int 0)) (cE (.int 1)))))))))
def F__law_det : List MV → MH → Res MV := bodyF 6 3 b__law_det
theorem fb__law_det (M : Md fa fn ex K mg) : FnB R.prog w K mg base 1 "_law_det" ["one", "other", "third"] 3 d__law_det F__law_det := by
  refine M.fb (N := ["one", "other", "third", "first", "second", "found"]) (ps := ["one", "other", "third"]) 53 (d := d__law_det) rfl (M.glo 49) rfl ⟨rfl, rfl, rfl, by decide +kernel, rfl, by decide +kernel, by decide +kernel⟩ rfl fun X J hp W tk => ?_
  have v_one : NmV _ "one" 0 := J.v (by decide +kernel)
  have v_other : NmV _ "other" 1 := J.v (by decide +kernel)
  have v_third : NmV _ "third" 2 := J.v (by decide +kernel)
  have a_first : NmA _ "first" 3 := J.a (by decide +kernel)
  have a_second : NmA _ "second" 4 := J.a (by decide +kernel)
  have v_first : NmV _ "first" 3 := J.v (by decide +kernel)
  have v_second : NmV _ "second" 4 := J.v (by decide +kernel)
  have a_found : NmA _ "found" 5 := J.a (by decide +kernel)
  have v_found : NmV _ "found" 5 := J.v (by decide +kernel)
  exact (ss_cons (a_first.set (se_bin op_mulM vp_mul (toP (se_at J.units (fun _ _ => rfl) (fun _ _ => rfl) v_one.peek (toP se_int))) (toP (se_bin op_subM vp_sub (toP (se_bin op_mulM vp_mul (toP (se_at J.units (fun _ _ => rfl) (fun _ _ => rfl) v_other.peek (toP se_int))) (toP (se_at J.units (fun _ _ => rfl) (fun _ _ => rfl) v_third.peek (toP se_int))))) (toP (se_bin op_mulM vp_mul (toP (se_at J.units (fun _ _ => rfl) (fun _ _ => rfl) v_third.peek (toP se_int))) (toP (se_at J.units (fun _ _ => rfl) (fun _ _ => rfl) v_other.peek (toP se_int))))))))) (ss_cons (a_second.set (se_bin op_mulM vp_mul (toP (se_at J.units (fun _ _ => rfl) (fun _ _ => rfl) v_one.peek (toP se_int))) (toP (se_bin op_subM vp_sub (toP (se_bin op_mulM vp_mul (toP (se_at J.units (fun _ _ => rfl) (fun _ _ => rfl) v_other.peek (toP se_int))) (toP (se_at J.units (fun _ _ => rfl) (fun _ _ => rfl) v_third.peek (toP se_int))))) (toP (se_bin op_mulM vp_mul (toP (se_at J.units (fun _ _ => rfl) (fun _ _ => rfl) v_third.peek (toP se_int))) (toP (se_at J.units (fun _ _ => rfl) (fun _ _ => rfl) v_other.peek (toP se_int))))))))) (ss_cons (a_found.set (se_bin op_addM vp_add (toP (se_bin op_subM vp_sub v_first.peek v_second.peek)) (toP (se_bin op_mulM vp_mul (toP (se_at J.units (fun _ _ => rfl) (fun _ _ => rfl) v_one.peek (toP se_int))) (toP (se_bin op_subM vp_sub (toP (se_bin op_mulM vp_mul (toP (se_at J.units (fun _ _ => rfl) (fun _ _ => rfl) v_other.peek (toP se_int))) (toP (se_at J.units (fun _ _ => rfl) (fun _ _ => rfl) v_third.peek (toP se_int))))) (toP (se_bin op_mulM vp_mul (toP (se_at J.units (fun _ _ => rfl) (fun _ _ => rfl) v_third.peek (toP se_int))) (toP (se_at J.units (fun _ _ => rfl) (fun _ _ => rfl) v_other.peek (toP se_int))))))))))) (ss_one (ss_ret (se_if (st_cmp J.opEq vp_eq (nomark _) v_found.peek (toP se_int)) se_int (se_if (st_cmp op_gtM vp_gt (nomark _) v_found.peek (toP se_int)) se_int (se_bin op_subM vp_sub (toP se_int) (toP se_int)))))))))
theorem f__law_det (M : Md fa fn ex K mg) : FnS R.prog w K mg base 1 "_law_det" 3 [] F__law_det := (fb__law_det M).s (fun fd F => Md.bindN F fun _ _ _ _ _ _ us hl => match us, hl with | [_, _, _], _ => rfl)
def b__law_same : SM := (retS (andE (bin2 eqM (bin2 mulM (bin2 ixDM (peekE 0) (cE (.int 0))) (bin2 ixDM (peekE 1) (cE (.int 2)))) (bin2 mulM (bin2 ixDM (peekE 1) (cE (.int 0))) (bin2 ixDM (peekE 0) (cE (.int 2))))) (bin2 eqM (bin2 mulM (bin2 ixDM (peekE 0) (cE (.int 1))) (bin2 ixDM (peekE 1) (cE (.int 2)))) (bin2 mulM (bin2 ixDM (peekE 1) (cE (.int 1))) (bin2 ixDM (peekE 0) (cE (.int 2)))))))
def F__law_same : List MV → MH → Res MV := bodyF 2 2 b__law_same
theorem fb__law_same (M : Md fa fn ex K mg) : FnB R.prog w K mg base 1 "_law_same" ["one", "other"] 2 d__law_same F__law_same := by
  refine M.fb (N := ["one", "other"]) (ps := ["one", "other"]) 54 (d := d__law_same) rfl (M.glo 50) rfl ⟨rfl, rfl, rfl, by decide +kernel, rfl, by decide +kernel, by decide +kernel⟩ rfl fun X J hp W tk => ?_
  have v_one : NmV _ "one" 0 := J.v (by decide +kernel)
  have v_other : NmV _ "other" 1 := J.v (by decide +kernel)
  exact (ss_one (ss_ret (se_and (se_cmp J.opEq vp_eq (nomark _) (toP (se_bin op_mulM vp_mul (toP (se_at J.units (fun _ _ => rfl) (fun _ _ => rfl) v_one.peek (toP se_int))) (toP (se_at J.units (fun _ _ => rfl) (fun _ _ => rfl) v_other.peek (toP se_int))))) (toP (se_bin op_mulM vp_mul (toP (se_at J.units (fun _ _ => rfl) (fun _ _ => rfl) v_other.peek (toP se_int))) (toP (se_at J.units (fun _ _ => rfl) (fun _ _ => rfl) v_one.peek (toP se_int)))))) (se_one (se_cmp J.opEq vp_eq (nomark _) (toP (se_bin op_mulM vp_mul (toP (se_at J.units (fun _ _ => rfl) (fun _ _ => rfl) v_one.peek (toP se_int))) (toP (se_at J.units (fun _ _ => rfl) (fun _ _ => rfl) v_other.peek (toP se_int))))) (toP (se_bin op_mulM vp_mul (toP (se_at J.units (fun _ _ => rfl) (fun _ _ => rfl) v_other.peek (toP se_int))) (toP (se_at J.units (fun _ _ => rfl) (fun _ _ => rfl) v_one.peek (toP se_int))))))))))
theorem f__law_same (M : Md fa fn ex K mg) : FnS R.prog w K mg base 1 "_law_same" 2 [] F__law_same := (fb__law_same M).s (fun fd F => Md.bindN F fun _ _ _ _ _ _ us hl => match us, hl with | [_, _], _ => rfl)
def b__law_less : SM := (retS (bin2 ltM (bin2 mulM (bin2 ixDM (peekE 0) (peekE 2)) (bin2 ixDM (peekE 1) (cE (.int 2)))) (bin2 mulM (bin2 ixDM (peekE 1) (peekE 2)) (bin2 ixDM (peekE 0) (cE (.int 2))))))
def F__law_less : List MV → MH → Res MV := bodyF 3 3 b__law_less
theorem fb__law_less (M : Md fa fn ex K mg) : FnB R.prog w K mg base 1 "_law_less" ["one", "other", "way"] 3 d__law_less F__law_less := by
  refine M.fb (N := ["one", "other", "way"]) (ps := ["one", "other", "way"]) 55 (d := d__law_less) rfl (M.glo 51) rfl ⟨rfl, rfl, rfl, by decide +kernel, rfl, by decide +kernel, by decide +kernel⟩ rfl fun X J hp W tk => ?_
  have v_one : NmV _ "one" 0 := J.v (by decide +kernel)
  have v_way : NmV _ "way" 2 := J.v (by decide +kernel)
  have v_other : NmV _ "other" 1 := J.v (by decide +kernel)
  exact (ss_one (ss_ret (se_cmp op_ltM vp_lt (nomark _) (toP (se_bin op_mulM vp_mul (toP (se_at J.units (fun _ _ => rfl) (fun _ _ => rfl) v_one.peek v_way.peek)) (toP (se_at J.units (fun _ _ => rfl) (fun _ _ => rfl) v_other.peek (toP se_int))))) (toP (se_bin op_mulM vp_mul (toP (se_at J.units (fun _ _ => rfl) (fun _ _ => rfl) v_other.peek v_way.peek)) (toP (se_at J.units (fun _ _ => rfl) (fun _ _ => rfl) v_one.peek (toP se_int))))))))
theorem f__law_less (M : Md fa fn ex K mg) : FnS R.prog w K mg base 1 "_law_less" 3 [] F__law_less := (fb__law_less M).s (fun fd F => Md.bindN F fun _ _ _ _ _ _ us hl => match us, hl with | [_, _, _], _ => rfl)
def b__law_on : SM := (seqS (ifS (tstE (bin2 neM (callE (callN 3 F__law_det) [] (consA (varE 0) (consA (varE 1) (consA (varE 2) nilA)))) (cE (.int 0)))) (retS (cE (.bl false))) nextS) (seqS (forS (nameT 3) (itB rng1M (consA (cE (.int 2)) nilA)) (ifS (orT (andT (tstE (callE (callN 3 F__law_less) [] (consA (varE 0) (consA (varE 1) (consA (varE 3) nilA))))) (tstE (callE (callN 3 F__law_less) [] (consA (varE 0) (consA (varE 2) (consA (varE 3) nilA)))))) (andT (tstE (callE (callN 3 F__law_less) [] (consA (varE 1) (consA (varE 0) (consA (varE 3) nilA))))) (tstE (callE (callN 3 F__law_less) [] (consA (varE 2) (consA (varE 0) (consA (varE 3) nilA))))))) (retS (cE (.bl false))) nextS)) (retS (cE (.bl true)))))
def F__law_on : List MV → MH → Res MV := bodyF 4 3 b__law_on
theorem fb__law_on (M : Md fa fn ex K mg) : FnB R.prog w K mg base 2 "_law_on" ["point", "one", "other"] 3 d__law_on F__law_on := by
  refine M.fb (N := ["point", "one", "other", "way"]) (ps := ["point", "one", "other"]) 56 (d := d__law_on) rfl (M.glo 52) rfl ⟨rfl, rfl, rfl, by decide +kernel, rfl, by decide +kernel, by decide +kernel⟩ rfl fun X J hp W tk => ?_
  have v_other : NmV _ "other" 2 := J.v (by decide +kernel)
  have v_one : NmV _ "one" 1 := J.v (by decide +kernel)
  have v_point : NmV _ "point" 0 := J.v (by decide +kernel)
  have g__law_det : NmG _ "_law_det" := J.g (by decide +kernel)
  have b_range : NmB _ "range" (.type "range") := J.b (m_range M) bt_range (by decide +kernel)
  have a_way : NmA _ "way" 3 := J.a (by decide +kernel)
  have v_way : NmV _ "way" 3 := J.v (by decide +kernel)
  have g__law_less : NmG _ "_law_less" := J.g (by decide +kernel)
  exact (ss_cons (ss_if (st_cmp J.opNe vp_ne (nomark _) (toP (J.call tk (f__law_det M) (by decide) g__law_det (sa_cons v_point.var (sa_cons v_one.var (sa_cons v_other.var sa_nil))))) (toP se_int)) (ss_one (ss_ret se_bl)) ss_nil) (ss_cons (ss_for hp J.calm (si_rng1 b_range (sa_cons se_int sa_nil)) a_way.tg (ss_one (ss_if (sw_or (sw_and (st_val (J.call tk (f__law_less M) (by decide) g__law_less (sa_cons v_point.var (sa_cons v_one.var (sa_cons v_way.var sa_nil))))) (sw_and1 (st_val (J.call tk (f__law_less M) (by decide) g__law_less (sa_cons v_point.var (sa_cons v_other.var (sa_cons v_way.var sa_nil))))))).pt (sw_or1 (sw_and (st_val (J.call tk (f__law_less M) (by decide) g__law_less (sa_cons v_one.var (sa_cons v_point.var (sa_cons v_way.var sa_nil))))) (sw_and1 (st_val (J.call tk (f__law_less M) (by decide) g__law_less (sa_cons v_other.var (sa_cons v_point.var (sa_cons v_way.var sa_nil))))))).pt)).pt (ss_one (ss_ret se_bl)) ss_nil))) (ss_one (ss_ret se_bl))))
theorem f__law_on (M : Md fa fn ex K mg) : FnS R.prog w K mg base 2 "_law_on" 3 [] F__law_on := (fb__law_on M).s (fun fd F => Md.bindN F fun _ _ _ _ _ _ us hl => match us, hl with | [_, _, _], _ => rfl)
def b__law_sides : SM := (retS (wrapL (lzipO (consA (peekE 0) (consA (bin2 addM (slV (peekE 0) (prtP (cE (.int 1))) noP) (slV (peekE 0) noP (prtP (cE (.int 1))))) nilA)))))
def F__law_sides : List MV → MH → Res MV := bodyF 1 1 b__law_sides
theorem fb__law_sides (M : Md fa fn ex K mg) : FnB R.prog w K mg base 1 "_law_sides" ["corners"] 1 d__law_sides F__law_sides := by
  refine M.fb (N := ["corners"]) (ps := ["corners"]) 57 (d := d__law_sides) rfl (M.glo 53) rfl ⟨rfl, rfl, rfl, by decide +kernel, rfl, by decide +kernel, by decide +kernel⟩ rfl fun X J hp W tk => ?_
  have v_corners : NmV _ "corners" 0 := J.v (by decide +kernel)
  have b_list : NmB _ "list" (.type "list") := J.b (m_list M) bt_list (by decide +kernel)
  have b_zip : NmB _ "zip" (.type "zip") := J.b (m_zip M) bt_zip (by decide +kernel)
  exact (ss_one (ss_ret (ofO (so_lzip J.calm b_list b_zip (spa_cons v_corners.peek (spa_cons (toP (se_bin op_addM vp_add (toP (se_slV v_corners.peek (spo_some (toP se_int)) spo_none)) (toP (se_slV v_corners.peek spo_none (spo_some (toP se_int)))))) spa_nil))))))
theorem f__law_sides (M : Md fa fn ex K mg) : FnS R.prog w K mg base 1 "_law_sides" 1 [] F__law_sides := (fb__law_sides M).s (fun fd F => Md.bindN F fun _ _ _ _ _ _ us hl => match us, hl with | [_], _ => rfl)
def b__law_where : SM := (seqS (setS 2 (cE (.bl false))) (seqS (forS (tupT 2 (consT (nameT 3) (consT (nameT 4) nilT))) (itAny (callE (callN 1 F__law_sides) [] (consA (varE 0) nilA))) (seqS (ifS (tstE (callE (callN 2 F__law_same) [] (consA (varE 1) (consA (varE 3) nilA)))) (retS (cE (.str [99, 111, 114, 110, 101, 114]))) nextS) (seqS (ifS (andT (notT (tstE (callE (callN 2 F__law_same) [] (consA (varE 1) (consA (varE 4) nilA))))) (tstE (callE (callN 3 F__law_on) [] (consA (varE 1) (consA (varE 3) (consA (varE 4) nilA)))))) (retS (cE (.str [119, 97, 108, 108]))) nextS) (seqS (par2S 5 6 (.v (callE (callN 3 F__law_less) [] (consA (varE 1) (consA (varE 3) (consA (cE (.int 1)) nilA))))) (.v (callE (callN 3 F__law_less) [] (consA (varE 1) (consA (varE 4) (consA (cE (.int 1)) nilA)))))) (ifS (andT (tstE (bin2 neM (peekE 5) (peekE 6))) (tstE (bin2 eqM (bin2 gtM (callE (callN 3 F__law_det) [] (consA (varE 3) (consA (varE 4) (consA (varE 1) nilA)))) (cE (.int 0))) (peekE 6)))) (setS 2 (un1 notM (varE 2))) nextS))))) (retS (ifE (tstE (varE 2)) (cE (.str [105, 110, 115, 105, 100, 101])) (cE (.str [111, 117, 116, 115, 105, 100, 101]))))))
def F__law_where : List MV → MH → Res MV := bodyF 7 2 b__law_where
theorem fb__law_where (M : Md fa fn ex K mg) : FnB R.prog w K mg base 3 "_law_where" ["corners", "point"] 2 d__law_where F__law_where := by
  refine M.fb (N := ["corners", "point", "is_inside", "one", "other", "low", "high"]) (ps := ["corners", "point"]) 58 (d := d__law_where) rfl (M.glo 54) rfl ⟨rfl, rfl, rfl, by decide +kernel, rfl, by decide +kernel, by decide +kernel⟩ rfl fun X J hp W tk => ?_
  have a_is_inside : NmA _ "is_inside" 2 := J.a (by decide +kernel)
  have v_corners : NmV _ "corners" 0 := J.v (by decide +kernel)
  have g__law_sides : NmG _ "_law_sides" := J.g (by decide +kernel)
  have a_other : NmA _ "other" 4 := J.a (by decide +kernel)
  have a_one : NmA _ "one" 3 := J.a (by decide +kernel)
  have v_one : NmV _ "one" 3 := J.v (by decide +kernel)
  have v_point : NmV _ "point" 1 := J.v (by decide +kernel)
  have g__law_same : NmG _ "_law_same" := J.g (by decide +kernel)
  have v_other : NmV _ "other" 4 := J.v (by decide +kernel)
  have g__law_on : NmG _ "_law_on" := J.g (by decide +kernel)
  have a_low : NmA _ "low" 5 := J.a (by decide +kernel)
  have a_high : NmA _ "high" 6 := J.a (by decide +kernel)
  have g__law_less : NmG _ "_law_less" := J.g (by decide +kernel)
  have v_low : NmV _ "low" 5 := J.v (by decide +kernel)
  have v_high : NmV _ "high" 6 := J.v (by decide +kernel)
  have g__law_det : NmG _ "_law_det" := J.g (by decide +kernel)
  have v_is_inside : NmV _ "is_inside" 2 := J.v (by decide +kernel)
  exact (ss_cons (a_is_inside.set se_bl) (ss_cons (ss_for hp J.calm (si_any (J.call tk (f__law_sides M) (by decide) g__law_sides (sa_cons v_corners.var sa_nil))) (sg_tup J.calm (sgs_cons a_one.tg (sgs_cons a_other.tg sgs_nil))) (ss_cons (ss_if (st_val (J.call tk (f__law_same M) (by decide) g__law_same (sa_cons v_point.var (sa_cons v_one.var sa_nil)))) (ss_one (ss_ret (se_str (by decide +kernel)))) ss_nil) (ss_cons (ss_if (sw_and (st_not (st_val (J.call tk (f__law_same M) (by decide) g__law_same (sa_cons v_point.var (sa_cons v_other.var sa_nil))))) (sw_and1 (st_val (J.call tk (f__law_on M) (by decide) g__law_on (sa_cons v_point.var (sa_cons v_one.var (sa_cons v_other.var sa_nil))))))).pt (ss_one (ss_ret (se_str (by decide +kernel)))) ss_nil) (ss_cons (J.par2 (a := (.v (callE (callN 3 F__law_less) [] (consA (varE 1) (consA (varE 3) (consA (cE (.int 1)) nilA)))))) (b := (.v (callE (callN 3 F__law_less) [] (consA (varE 1) (consA (varE 4) (consA (cE (.int 1)) nilA)))))) a_low a_high (by decide) (by decide +kernel) (by decide +kernel) (J.call tk (f__law_less M) (by decide) g__law_less (sa_cons v_point.var (sa_cons v_one.var (sa_cons se_int sa_nil)))) (J.call tk (f__law_less M) (by decide) g__law_less (sa_cons v_point.var (sa_cons v_other.var (sa_cons se_int sa_nil)))) (by rfl)) (ss_one (ss_if (sw_and (st_cmp J.opNe vp_ne (nomark _) v_low.peek v_high.peek) (sw_and1 (st_cmp J.opEq vp_eq (nomark _) (toP (se_cmp op_gtM vp_gt (nomark _) (toP (J.call tk (f__law_det M) (by decide) g__law_det (sa_cons v_one.var (sa_cons v_other.var (sa_cons v_point.var sa_nil))))) (toP se_int))) v_high.peek))).pt (ss_one (a_is_inside.set (se_not v_is_inside.var))) ss_nil)))))) (ss_one (ss_ret (se_if (st_val v_is_inside.var) (se_str (by decide +kernel)) (se_str (by decide +kernel)))))))
theorem f__law_where (M : Md fa fn ex K mg) : FnS R.prog w K mg base 3 "_law_where" 2 [] F__law_where := (fb__law_where M).s (fun fd F => Md.bindN F fun _ _ _ _ _ _ us hl => match us, hl with | [_, _], _ => rfl)
def b__law_do_cross : SM := (seqS (ifS (orT (tstE (bin2 neM (wrapL (compO [4] (itAny (wrapL (lstO (consA (varE 2) (consA (varE 3) nilA))))) (nameT 4) (tstE (callE (callN 3 F__law_on) [] (consA (varE 4) (consA (varE 0) (consA (varE 1) nilA))))) (cE (.int 1)))) (wrapL (lstO nilA)))) (orT (tstE (callE (callN 3 F__law_on) [] (consA (varE 0) (consA (varE 2) (consA (varE 3) nilA))))) (tstE (callE (callN 3 F__law_on) [] (consA (varE 1) (consA (varE 2) (consA (varE 3) nilA))))))) (retS (cE (.bl true))) nextS) (seqS (ifS (tstE (bin2 eqM (callE (callN 3 F__law_det) [] (consA (varE 0) (consA (varE 1) (consA (varE 2) nilA)))) (callE (callN 3 F__law_det) [] (consA (varE 0) (consA (varE 1) (consA (varE 3) nilA)))))) (retS (cE (.bl false))) nextS) (retS (bin2 neM (callE (callN 3 F__law_det) [] (consA (varE 2) (consA (varE 3) (consA (varE 0) nilA)))) (callE (callN 3 F__law_det) [] (consA (varE 2) (consA (varE 3) (consA (varE 1) nilA))))))))
def F__law_do_cross : List MV → MH → Res MV := bodyF 5 4 b__law_do_cross
theorem fb__law_do_cross (M : Md fa fn ex K mg) : FnB R.prog w K mg base 3 "_law_do_cross" ["one", "other", "third", "fourth"] 4 d__law_do_cross F__law_do_cross := by
  refine M.fb (N := ["one", "other", "third", "fourth", "late"]) (ps := ["one", "other", "third", "fourth"]) 59 (d := d__law_do_cross) rfl (M.glo 55) rfl ⟨rfl, rfl, rfl, by decide +kernel, rfl, by decide +kernel, by decide +kernel⟩ rfl fun X J hp W tk => ?_
  have v_fourth : NmV _ "fourth" 3 := J.v (by decide +kernel)
  have v_third : NmV _ "third" 2 := J.v (by decide +kernel)
  have v_one : NmV _ "one" 0 := J.v (by decide +kernel)
  have g__law_on : NmG _ "_law_on" := J.g (by decide +kernel)
  have v_other : NmV _ "other" 1 := J.v (by decide +kernel)
  have g__law_det : NmG _ "_law_det" := J.g (by decide +kernel)
  exact (ss_cons (ss_if (sw_or (st_cmp J.opNe vp_ne (nomark _) (toP (ofO (J.compJ (vs := [("late", 4)]) (toIP (si_any (ofO (so_lst (sa_cons v_third.var (sa_cons v_fourth.var sa_nil)))))) (by decide +kernel) (fun s H C cl fp J => by
  have a_late : NmA _ "late" 4 := J.a (by decide +kernel)
  exact a_late.tg) (fun s H C cl fp J => by
  have v_other : NmV _ "other" 1 := J.v (by decide +kernel)
  have v_one : NmV _ "one" 0 := J.v (by decide +kernel)
  have v_late : NmV _ "late" 4 := J.v (by decide +kernel)
  have g__law_on : NmG _ "_law_on" := J.g (by decide +kernel)
  exact (sts_one (st_val (J.call takes_no (f__law_on M) (by decide) g__law_on (sa_cons v_late.var (sa_cons v_one.var (sa_cons v_other.var sa_nil))))))) (fun s H C cl fp J => by
  exact se_int) (by decide)))) (toP (ofO (so_lst sa_nil)))) (sw_or (st_val (J.call tk (f__law_on M) (by decide) g__law_on (sa_cons v_one.var (sa_cons v_third.var (sa_cons v_fourth.var sa_nil))))) (sw_or1 (st_val (J.call tk (f__law_on M) (by decide) g__law_on (sa_cons v_other.var (sa_cons v_third.var (sa_cons v_fourth.var sa_nil)))))))).pt (ss_one (ss_ret se_bl)) ss_nil) (ss_cons (ss_if (st_cmp J.opEq vp_eq (nomark _) (toP (J.call tk (f__law_det M) (by decide) g__law_det (sa_cons v_one.var (sa_cons v_other.var (sa_cons v_third.var sa_nil))))) (toP (J.call tk (f__law_det M) (by decide) g__law_det (sa_cons v_one.var (sa_cons v_other.var (sa_cons v_fourth.var sa_nil)))))) (ss_one (ss_ret se_bl)) ss_nil) (ss_one (ss_ret (se_cmp J.opNe vp_ne (nomark _) (toP (J.call tk (f__law_det M) (by decide) g__law_det (sa_cons v_third.var (sa_cons v_fourth.var (sa_cons v_one.var sa_nil))))) (toP (J.call tk (f__law_det M) (by decide) g__law_det (sa_cons v_third.var (sa_cons v_fourth.var (sa_cons v_other.var sa_nil))))))))))
theorem f__law_do_cross (M : Md fa fn ex K mg) : FnS R.prog w K mg base 3 "_law_do_cross" 4 [] F__law_do_cross := (fb__law_do_cross M).s (fun fd F => Md.bindN F fun _ _ _ _ _ _ us hl => match us, hl with | [_, _, _, _], _ => rfl)
def b__law_twice : SM := (seqS (setS 1 (cE (.int 0))) (seqS (forS (tupT 2 (consT (nameT 2) (consT (nameT 3) nilT))) (itAny (callE (callN 1 F__law_sides) [] (consA (varE 0) nilA))) (setS 1 (bin2 subM (bin2 addM (peekE 1) (bin2 mulM (bin2 ixDM (peekE 2) (cE (.int 0))) (bin2 ixDM (peekE 3) (cE (.int 1))))) (bin2 mulM (bin2 ixDM (peekE 3) (cE (.int 0))) (bin2 ixDM (peekE 2) (cE (.int 1))))))) (retS (varE 1))))
def F__law_twice : List MV → MH → Res MV := bodyF 4 1 b__law_twice
theorem fb__law_twice (M : Md fa fn ex K mg) : FnB R.prog w K mg base 2 "_law_twice" ["corners"] 1 d__law_twice F__law_twice := by
  refine M.fb (N := ["corners", "found", "one", "other"]) (ps := ["corners"]) 60 (d := d__law_twice) rfl (M.glo 56) rfl ⟨rfl, rfl, rfl, by decide +kernel, rfl, by decide +kernel, by decide +kernel⟩ rfl fun X J hp W tk => ?_
  have a_found : NmA _ "found" 1 := J.a (by decide +kernel)
  have v_corners : NmV _ "corners" 0 := J.v (by decide +kernel)
  have g__law_sides : NmG _ "_law_sides" := J.g (by decide +kernel)
  have a_other : NmA _ "other" 3 := J.a (by decide +kernel)
  have a_one : NmA _ "one" 2 := J.a (by decide +kernel)
  have v_found : NmV _ "found" 1 := J.v (by decide +kernel)
  have v_one : NmV _ "one" 2 := J.v (by decide +kernel)
  have v_other : NmV _ "other" 3 := J.v (by decide +kernel)
  exact (ss_cons (a_found.set se_int) (ss_cons (ss_for hp J.calm (si_any (J.call tk (f__law_sides M) (by decide) g__law_sides (sa_cons v_corners.var sa_nil))) (sg_tup J.calm (sgs_cons a_one.tg (sgs_cons a_other.tg sgs_nil))) (ss_one (a_found.set (se_bin op_subM vp_sub (toP (se_bin op_addM vp_add v_found.peek (toP (se_bin op_mulM vp_mul (toP (se_at J.units (fun _ _ => rfl) (fun _ _ => rfl) v_one.peek (toP se_int))) (toP (se_at J.units (fun _ _ => rfl) (fun _ _ => rfl) v_other.peek (toP se_int))))))) (toP (se_bin op_mulM vp_mul (toP (se_at J.units (fun _ _ => rfl) (fun _ _ => rfl) v_other.peek (toP se_int))) (toP (se_at J.units (fun _ _ => rfl) (fun _ _ => rfl) v_one.peek (toP se_int))))))))) (ss_one (ss_ret v_found.var))))
theorem f__law_twice (M : Md fa fn ex K mg) : FnS R.prog w K mg base 2 "_law_twice" 1 [] F__law_twice := (fb__law_twice M).s (fun fd F => Md.bindN F fun _ _ _ _ _ _ us hl => match us, hl with | [_], _ => rfl)
def b__law_is_simple : SM := (seqS (setS 1 (callB lenM (consA (peekE 0) nilA))) (seqS (ifS (orT (tstE (bin2 ltM (peekE 1) (cE (.int 3)))) (tstE (bin2 neM (wrapL (compO [3] (itB rng1M (consA (varE 1) nilA)) (nameT 3) (tstE (bin2 eqM (callE (callN 3 F__law_det) [] (consA (bin2 ixDM (peekE 0) (bin2 subM (peekE 3) (cE (.int 2)))) (consA (bin2 ixDM (peekE 0) (bin2 subM (peekE 3) (cE (.int 1)))) (consA (bin2 ixDM (peekE 0) (peekE 3)) nilA)))) (cE (.int 0)))) (varE 3))) (wrapL (lstO nilA))))) (retS (cE (.bl false))) nextS) (seqS (setS 2 (callE (callN 1 F__law_sides) [] (consA (varE 0) nilA))) (seqS (forS (nameT 3) (itB rng1M (consA (varE 1) nilA)) (forS (nameT 4) (itB rng2M (consA (bin2 addM (peekE 3) (cE (.int 2))) (consA (varE 1) nilA))) (ifS (andT (tstE (bin2 neM (bin2 modM (callB intM (consA (bin2 addM (peekE 4) (cE (.int 1))) nilA)) (peekE 1)) (peekE 3))) (tstE (callE (callN 4 F__law_do_cross) [] (consA (bin2 ixDM (bin2 ixDM (peekE 2) (peekE 3)) (cE (.int 0))) (consA (bin2 ixDM (bin2 ixDM (peekE 2) (peekE 3)) (cE (.int 1))) (consA (bin2 ixDM (bin2 ixDM (peekE 2) (peekE 4)) (cE (.int 0))) (consA (bin2 ixDM (bin2 ixDM (peekE 2) (peekE 4)) (cE (.int 1))) nilA))))))) (retS (cE (.bl false))) nextS))) (retS (cE (.bl true)))))))
def F__law_is_simple : List MV → MH → Res MV := bodyF 5 1 b__law_is_simple
theorem fb__law_is_simple (M : Md fa fn ex K mg) : FnB R.prog w K mg base 4 "_law_is_simple" ["corners"] 1 d__law_is_simple F__law_is_simple := by
  refine M.fb (N := ["corners", "many", "walls", "at", "late"]) (ps := ["corners"]) 61 (d := d__law_is_simple) rfl (M.glo 57) rfl ⟨rfl, rfl, rfl, by decide +kernel, rfl, by decide +kernel, by decide +kernel⟩ rfl fun X J hp W tk => ?_
  have v_corners : NmV _ "corners" 0 := J.v (by decide +kernel)
  have b_len : NmB _ "len" (.builtin "len") := J.b (m_len M) bt_len (by decide +kernel)
  have a_many : NmA _ "many" 1 := J.a (by decide +kernel)
  have v_many : NmV _ "many" 1 := J.v (by decide +kernel)
  have b_range : NmB _ "range" (.type "range") := J.b (m_range M) bt_range (by decide +kernel)
  have g__law_sides : NmG _ "_law_sides" := J.g (by decide +kernel)
  have a_walls : NmA _ "walls" 2 := J.a (by decide +kernel)
  have a_at : NmA _ "at" 3 := J.a (by decide +kernel)
  have v_at : NmV _ "at" 3 := J.v (by decide +kernel)
  have a_late : NmA _ "late" 4 := J.a (by decide +kernel)
  have v_late : NmV _ "late" 4 := J.v (by decide +kernel)
  have b_int : NmB _ "int" (.type "int") := J.b (m_int M) bt_int (by decide +kernel)
  have v_walls : NmV _ "walls" 2 := J.v (by decide +kernel)
  have g__law_do_cross : NmG _ "_law_do_cross" := J.g (by decide +kernel)
  exact (ss_cons (a_many.set (se_callB call_len vp_len b_len (spa_cons v_corners.peek spa_nil))) (ss_cons (ss_if (sw_or (st_cmp op_ltM vp_lt (nomark _) v_many.peek (toP se_int)) (sw_or1 (st_cmp J.opNe vp_ne (nomark _) (toP (ofO (J.compJ (vs := [("at", 3)]) (toIP (si_rng1 b_range (sa_cons v_many.var sa_nil))) (by decide +kernel) (fun s H C cl fp J => by
  have a_at : NmA _ "at" 3 := J.a (by decide +kernel)
  exact a_at.tg) (fun s H C cl fp J => by
  have v_corners : NmV _ "corners" 0 := J.v (by decide +kernel)
  have v_at : NmV _ "at" 3 := J.v (by decide +kernel)
  have g__law_det : NmG _ "_law_det" := J.g (by decide +kernel)
  exact (sts_one (st_cmp J.opEq vp_eq (nomark _) (toP (J.call takes_no (f__law_det M) (by decide) g__law_det (sa_cons (se_at J.units (fun _ _ => rfl) (fun _ _ => rfl) v_corners.peek (toP (se_bin op_subM vp_sub v_at.peek (toP se_int)))) (sa_cons (se_at J.units (fun _ _ => rfl) (fun _ _ => rfl) v_corners.peek (toP (se_bin op_subM vp_sub v_at.peek (toP se_int)))) (sa_cons (se_at J.units (fun _ _ => rfl) (fun _ _ => rfl) v_corners.peek v_at.peek) sa_nil))))) (toP se_int)))) (fun s H C cl fp J => by
  have v_at : NmV _ "at" 3 := J.v (by decide +kernel)
  exact v_at.var) (by decide)))) (toP (ofO (so_lst sa_nil)))))).pt (ss_one (ss_ret se_bl)) ss_nil) (ss_cons (a_walls.set (J.call tk (f__law_sides M) (by decide) g__law_sides (sa_cons v_corners.var sa_nil))) (ss_cons (ss_for hp J.calm (si_rng1 b_range (sa_cons v_many.var sa_nil)) a_at.tg (ss_one (ss_for hp J.calm (si_rng2 b_range (sa_cons (se_bin op_addM vp_add v_at.peek (toP se_int)) (sa_cons v_many.var sa_nil))) a_late.tg (ss_one (ss_if (sw_and (st_cmp J.opNe vp_ne (nomark _) (toP (se_bin op_modN vp_mod (toP (se_callT call_int1 vp_toInt b_int (spa_cons (toP (se_bin op_addM vp_add v_late.peek (toP se_int))) spa_nil))) v_many.peek)) v_at.peek) (sw_and1 (st_val (J.call tk (f__law_do_cross M) (by decide) g__law_do_cross (sa_cons (se_at J.units (fun _ _ => rfl) (fun _ _ => rfl) (toP (se_at J.units (fun _ _ => rfl) (fun _ _ => rfl) v_walls.peek v_at.peek)) (toP se_int)) (sa_cons (se_at J.units (fun _ _ => rfl) (fun _ _ => rfl) (toP (se_at J.units (fun _ _ => rfl) (fun _ _ => rfl) v_walls.peek v_at.peek)) (toP se_int)) (sa_cons (se_at J.units (fun _ _ => rfl) (fun _ _ => rfl) (toP (se_at J.units (fun _ _ => rfl) (fun _ _ => rfl) v_walls.peek v_late.peek)) (toP se_int)) (sa_cons (se_at J.units (fun _ _ => rfl) (fun _ _ => rfl) (toP (se_at J.units (fun _ _ => rfl) (fun _ _ => rfl) v_walls.peek v_late.peek)) (toP se_int)) sa_nil)))))))).pt (ss_one (ss_ret se_bl)) ss_nil))))) (ss_one (ss_ret se_bl))))))
theorem f__law_is_simple (M : Md fa fn ex K mg) : FnS R.prog w K mg base 4 "_law_is_simple" 1 [] F__law_is_simple := (fb__law_is_simple M).s (fun fd F => Md.bindN F fun _ _ _ _ _ _ us hl => match us, hl with | [_], _ => rfl)
def b__law_ways : SM := (retS (wrapL (lstO (consA (tupE (consA (cE (.int 1)) (consA (cE (.int 0)) nilA))) (consA (tupE (consA (cE (.int 2)) (consA (cE (.int 1)) nilA))) (consA (tupE (consA (cE (.int 1)) (consA (cE (.int 1)) nilA))) (consA (tupE (consA (cE (.int 1)) (consA (cE (.int 2)) nilA))) (consA (tupE (consA (cE (.int 0)) (consA (cE (.int 1)) nilA))) (consA (tupE (consA (un1 negM (cE (.int 1))) (consA (cE (.int 2)) nilA))) (consA (tupE (consA (un1 negM (cE (.int 1))) (consA (cE (.int 1)) nilA))) (consA (tupE (consA (un1 negM (cE (.int 2))) (consA (cE (.int 1)) nilA))) (consA (tupE (consA (un1 negM (cE (.int 1))) (consA (cE (.int 0)) nilA))) (consA (tupE (consA (un1 negM (cE (.int 2))) (consA (un1 negM (cE (.int 1))) nilA))) (consA (tupE (consA (un1 negM (cE (.int 1))) (consA (un1 negM (cE (.int 1))) nilA))) (consA (tupE (consA (un1 negM (cE (.int 1))) (consA (un1 negM (cE (.int 2))) nilA))) (consA (tupE (consA (cE (.int 0)) (consA (un1 negM (cE (.int 1))) nilA))) (consA (tupE (consA (cE (.int 1)) (consA (un1 negM (cE (.int 2))) nilA))) (consA (tupE (consA (cE (.int 1)) (consA (un1 negM (cE (.int 1))) nilA))) (consA (tupE (consA (cE (.int 2)) (consA (un1 negM (cE (.int 1))) nilA))) nilA)))))))))))))))))))
def F__law_ways : List MV → MH → Res MV := bodyF 0 0 b__law_ways
theorem fb__law_ways (M : Md fa fn ex K mg) : FnB R.prog w K mg base 1 "_law_ways" [] 0 d__law_ways F__law_ways := by
  refine M.fb (N := []) (ps := []) 62 (d := d__law_ways) rfl (M.glo 58) rfl ⟨rfl, rfl, rfl, by decide +kernel, rfl, by decide +kernel, by decide +kernel⟩ rfl fun X J hp W tk => ?_
  exact (ss_one (ss_ret (ofO (so_lst (sa_cons (se_tup (sa_cons se_int (sa_cons se_int sa_nil))) (sa_cons (se_tup (sa_cons se_int (sa_cons se_int sa_nil))) (sa_cons (se_tup (sa_cons se_int (sa_cons se_int sa_nil))) (sa_cons (se_tup (sa_cons se_int (sa_cons se_int sa_nil))) (sa_cons (se_tup (sa_cons se_int (sa_cons se_int sa_nil))) (sa_cons (se_tup (sa_cons (se_un un_neg vp_neg (toP se_int)) (sa_cons se_int sa_nil))) (sa_cons (se_tup (sa_cons (se_un un_neg vp_neg (toP se_int)) (sa_cons se_int sa_nil))) (sa_cons (se_tup (sa_cons (se_un un_neg vp_neg (toP se_int)) (sa_cons se_int sa_nil))) (sa_cons (se_tup (sa_cons (se_un un_neg vp_neg (toP se_int)) (sa_cons se_int sa_nil))) (sa_cons (se_tup (sa_cons (se_un un_neg vp_neg (toP se_int)) (sa_cons (se_un un_neg vp_neg (toP se_int)) sa_nil))) (sa_cons (se_tup (sa_cons (se_un un_neg vp_neg (toP se_int)) (sa_cons (se_un un_neg vp_neg (toP se_int)) sa_nil))) (sa_cons (se_tup (sa_cons (se_un un_neg vp_neg (toP se_int)) (sa_cons (se_un un_neg vp_neg (toP se_int)) sa_nil))) (sa_cons (se_tup (sa_cons se_int (sa_cons (se_un un_neg vp_neg (toP se_int)) sa_nil))) (sa_cons (se_tup (sa_cons se_int (sa_cons (se_un un_neg vp_neg (toP se_int)) sa_nil))) (sa_cons (se_tup (sa_cons se_int (sa_cons (se_un un_neg vp_neg (toP se_int)) sa_nil))) (sa_cons (se_tup (sa_cons se_int (sa_cons (se_un un_neg vp_neg (toP se_int)) sa_nil))) sa_nil))))))))))))))))))))
theorem f__law_ways (M : Md fa fn ex K mg) : FnS R.prog w K mg base 1 "_law_ways" 0 [] F__law_ways := (fb__law_ways M).s (fun fd F => Md.bindN F fun _ _ _ _ _ _ us hl => match us, hl with | [], _ => rfl)
def b__law_star : SM := (seqS (setS 2 (wrapL (callBO sortedM (consA (slV (callE (callN 2 F__law_shuffled) [] (consA (varE 0) (consA (wrapL (lrgO rng1M (consA (cE (.int 16)) nilA))) nilA))) noP (prtP (bin2 addM (cE (.int 3)) (callE (callN 2 F__law_draw) [] (consA (varE 0) (consA (callB maxM (consA (bin2 subM (peekE 1) (cE (.int 2))) (consA (cE (.int 1)) nilA))) nilA)))))) nilA)))) (seqS (setS 3 (wrapL (compO [5, 7] (itB zipM (consA (varE 2) (consA (bin2 addM (slV (peekE 2) (prtP (cE (.int 1))) noP) (slV (peekE 2) noP (prtP (cE (.int 1))))) nilA))) (tupT 2 (consT (nameT 5) (consT (nameT 7) nilT))) yesT (bin2 addM (bin2 modM (callB intM (consA (bin2 subM (bin2 subM (peekE 7) (peekE 5)) (cE (.int 1))) nilA)) (cE (.int 16))) (cE (.int 1)))))) (seqS (setS 2 (ifE (tstE (bin2 ltM (callB maxM (consA (peekE 3) nilA)) (cE (.int 8)))) (varE 2) (wrapL (lstO (consA (cE (.int 0)) (consA (cE (.int 4)) (consA (cE (.int 8)) (consA (cE (.int 12)) nilA)))))))) (seqS (ownS 4 (lstO nilA)) (seqS (forS (nameT 5) (itAny (varE 2)) (seqS (setS 6 (bin2 addM (cE (.int 1)) (callE (callN 2 F__law_draw) [] (consA (varE 0) (consA (cE (.int 6)) nilA))))) (mutS 4 appendM (consA (tupE (consA (bin2 mulM (bin2 ixDM (bin2 ixDM (callE (callN 0 F__law_ways) [] nilA) (peekE 5)) (cE (.int 0))) (peekE 6)) (consA (bin2 mulM (bin2 ixDM (bin2 ixDM (callE (callN 0 F__law_ways) [] nilA) (peekE 5)) (cE (.int 1))) (peekE 6)) (consA (cE (.int 1)) nilA)))) nilA)))) (fzS 4 (retS (varE 4))))))))
def F__law_star : List MV → MH → Res MV := bodyF 8 2 b__law_star
theorem fb__law_star (M : Md fa fn ex K mg) : FnB R.prog w K mg base 4 "_law_star" ["purse", "most"] 2 d__law_star F__law_star := by
  refine M.fb (N := ["purse", "most", "some", "gaps", "found", "at", "long", "late"]) (ps := ["purse", "most"]) 63 (d := d__law_star) rfl (M.glo 59) rfl ⟨rfl, rfl, rfl, by decide +kernel, rfl, by decide +kernel, by decide +kernel⟩ rfl fun X J hp W tk => ?_
  have b_range : NmB _ "range" (.type "range") := J.b (m_range M) bt_range (by decide +kernel)
  have b_list : NmB _ "list" (.type "list") := J.b (m_list M) bt_list (by decide +kernel)
  have v_purse : NmV _ "purse" 0 := J.v (by decide +kernel)
  have g__law_shuffled : NmG _ "_law_shuffled" := J.g (by decide +kernel)
  have v_most : NmV _ "most" 1 := J.v (by decide +kernel)
  have b_max : NmB _ "max" (.builtin "max") := J.b (m_max M) bt_max (by decide +kernel)
  have g__law_draw : NmG _ "_law_draw" := J.g (by decide +kernel)
  have b_sorted : NmB _ "sorted" (.builtin "sorted") := J.b (m_sorted M) bt_sorted (by decide +kernel)
  have a_some : NmA _ "some" 2 := J.a (by decide +kernel)
  have v_some : NmV _ "some" 2 := J.v (by decide +kernel)
  have b_zip : NmB _ "zip" (.type "zip") := J.b (m_zip M) bt_zip (by decide +kernel)
  have a_gaps : NmA _ "gaps" 3 := J.a (by decide +kernel)
  have v_gaps : NmV _ "gaps" 3 := J.v (by decide +kernel)
  have a_found : NmA _ "found" 4 := J.a (by decide +kernel)
  have a_at : NmA _ "at" 5 := J.a (by decide +kernel)
  have a_long : NmA _ "long" 6 := J.a (by decide +kernel)
  have g__law_ways : NmG _ "_law_ways" := J.g (by decide +kernel)
  have v_at : NmV _ "at" 5 := J.v (by decide +kernel)
  have v_long : NmV _ "long" 6 := J.v (by decide +kernel)
  have v_found : NmV _ "found" 4 := J.v (by decide +kernel)
  exact (ss_cons (a_some.set (ofO (so_callB cr_sortedI vo_sorted b_sorted (spa_cons (toP (se_slV (toP (J.call tk (f__law_shuffled M) (by decide) g__law_shuffled (sa_cons v_purse.var (sa_cons (ofO (so_lrg1 J.calm b_range b_list se_int)) sa_nil)))) spo_none (spo_some (toP (se_bin op_addM vp_add (toP se_int) (toP (J.call tk (f__law_draw M) (by decide) g__law_draw (sa_cons v_purse.var (sa_cons (se_callB (cr_maxM J.calm) vp_max b_max (spa_cons (toP (se_bin op_subM vp_sub v_most.peek (toP se_int))) (spa_cons (toP se_int) spa_nil))) sa_nil))))))))) spa_nil)))) (ss_cons (J.setLcJ a_gaps (by decide +kernel) (by rfl) (vs := [("at", 5), ("late", 7)]) (toIP (si_zip b_zip (sa_cons v_some.var (sa_cons (se_bin op_addM vp_add (toP (se_slV v_some.peek (spo_some (toP se_int)) spo_none)) (toP (se_slV v_some.peek spo_none (spo_some (toP se_int))))) sa_nil)))) (by decide +kernel) (fun s H C cl fp J => by
  have a_late : NmA _ "late" 7 := J.a (by decide +kernel)
  have a_at : NmA _ "at" 5 := J.a (by decide +kernel)
  exact (sg_tup J.calm (sgs_cons a_at.tg (sgs_cons a_late.tg sgs_nil)))) (fun s H C cl fp J => sts_nil) (fun s H C cl fp J => by
  have v_late : NmV _ "late" 7 := J.v (by decide +kernel)
  have v_at : NmV _ "at" 5 := J.v (by decide +kernel)
  have b_int : NmB _ "int" (.type "int") := J.b (m_int M) bt_int (by decide +kernel)
  exact (se_bin op_addM vp_add (toP (se_bin op_modN vp_mod (toP (se_callT call_int1 vp_toInt b_int (spa_cons (toP (se_bin op_subM vp_sub (toP (se_bin op_subM vp_sub v_late.peek v_at.peek)) (toP se_int))) spa_nil))) (toP se_int))) (toP se_int))) (by decide)) (ss_cons (a_some.set (se_if (st_cmp op_ltM vp_lt (nomark _) (toP (se_callB (cr_maxM J.calm) vp_max b_max (spa_cons v_gaps.peek spa_nil))) (toP se_int)) v_some.var (ofO (so_lst (sa_cons se_int (sa_cons se_int (sa_cons se_int (sa_cons se_int sa_nil)))))))) (ss_cons (a_found.setO (so_lst sa_nil)) (ss_cons (ss_for hp J.calm (si_any v_some.var) a_at.tg (ss_cons (a_long.set (se_bin op_addM vp_add (toP se_int) (toP (J.call tk (f__law_draw M) (by decide) g__law_draw (sa_cons v_purse.var (sa_cons se_int sa_nil)))))) (ss_one (ss_mut PySem.F.slot_list_append PySem.F.type_list_append mt_append vm_append v_found.raw (sa_cons (se_tup (sa_cons (se_bin op_mulM vp_mul (toP (se_at J.units (fun _ _ => rfl) (fun _ _ => rfl) (toP (se_at J.units (fun _ _ => rfl) (fun _ _ => rfl) (toP (J.call0 tk (f__law_ways M) (by decide) g__law_ways)) v_at.peek)) (toP se_int))) v_long.peek) (sa_cons (se_bin op_mulM vp_mul (toP (se_at J.units (fun _ _ => rfl) (fun _ _ => rfl) (toP (se_at J.units (fun _ _ => rfl) (fun _ _ => rfl) (toP (J.call0 tk (f__law_ways M) (by decide) g__law_ways)) v_at.peek)) (toP se_int))) v_long.peek) (sa_cons se_int sa_nil)))) sa_nil))))) (ss_fz 4 (ss_one (ss_ret v_found.var))))))))
theorem f__law_star (M : Md fa fn ex K mg) : FnS R.prog w K mg base 4 "_law_star" 2 [] F__law_star := (fb__law_star M).s (fun fd F => Md.bindN F fun _ _ _ _ _ _ us hl => match us, hl with | [_, _], _ => rfl)
def b__law_comb : SM := (seqS (par2S 2 3 (.o (lstO (consA (tupE (consA (cE (.int 0)) (consA (cE (.int 0)) (consA (cE (.int 1)) nilA)))) (consA (tupE (consA (bin2 mulM (cE (.int 4)) (peekE 1)) (consA (cE (.int 0)) (consA (cE (.int 1)) nilA)))) nilA)))) (.v (bin2 addM (cE (.int 2)) (callE (callN 2 F__law_draw) [] (consA (varE 0) (consA (cE (.int 5)) nilA)))))) (seqS (forS (nameT 4) (itB rng3M (consA (bin2 subM (peekE 1) (cE (.int 1))) (consA (un1 negM (cE (.int 1))) (consA (un1 negM (cE (.int 1))) nilA)))) (seqS (mutS 2 appendM (consA (tupE (consA (bin2 addM (bin2 addM (bin2 mulM (cE (.int 4)) (peekE 4)) (cE (.int 3))) (bin2 mulM (callE (callN 2 F__law_draw) [] (consA (varE 0) (consA (cE (.int 2)) nilA))) (callB intM (consA (bin2 eqM (bin2 addM (peekE 4) (cE (.int 1))) (peekE 1)) nilA)))) (consA (bin2 addM (peekE 3) (callE (callN 2 F__law_draw) [] (consA (varE 0) (consA (cE (.int 4)) nilA)))) (consA (cE (.int 1)) nilA)))) nilA)) (mutS 2 appendM (consA (tupE (consA (bin2 addM (bin2 addM (bin2 mulM (cE (.int 4)) (peekE 4)) (cE (.int 1))) (callE (callN 2 F__law_draw) [] (consA (varE 0) (consA (cE (.int 2)) nilA)))) (consA (cE (.int 1)) (consA (cE (.int 1)) nilA)))) nilA)))) (fzS 2 (retS (varE 2)))))
def F__law_comb : List MV → MH → Res MV := bodyF 5 2 b__law_comb
theorem fb__law_comb (M : Md fa fn ex K mg) : FnB R.prog w K mg base 3 "_law_comb" ["purse", "teeth"] 2 d__law_comb F__law_comb := by
  refine M.fb (N := ["purse", "teeth", "found", "high", "tooth"]) (ps := ["purse", "teeth"]) 64 (d := d__law_comb) rfl (M.glo 60) rfl ⟨rfl, rfl, rfl, by decide +kernel, rfl, by decide +kernel, by decide +kernel⟩ rfl fun X J hp W tk => ?_
  have a_found : NmA _ "found" 2 := J.a (by decide +kernel)
  have a_high : NmA _ "high" 3 := J.a (by decide +kernel)
  have v_teeth : NmV _ "teeth" 1 := J.v (by decide +kernel)
  have v_purse : NmV _ "purse" 0 := J.v (by decide +kernel)
  have g__law_draw : NmG _ "_law_draw" := J.g (by decide +kernel)
  have b_range : NmB _ "range" (.type "range") := J.b (m_range M) bt_range (by decide +kernel)
  have a_tooth : NmA _ "tooth" 4 := J.a (by decide +kernel)
  have v_high : NmV _ "high" 3 := J.v (by decide +kernel)
  have v_tooth : NmV _ "tooth" 4 := J.v (by decide +kernel)
  have b_int : NmB _ "int" (.type "int") := J.b (m_int M) bt_int (by decide +kernel)
  have v_found : NmV _ "found" 2 := J.v (by decide +kernel)
  exact (ss_cons (J.par2 (a := (.o (lstO (consA (tupE (consA (cE (.int 0)) (consA (cE (.int 0)) (consA (cE (.int 1)) nilA)))) (consA (tupE (consA (bin2 mulM (cE (.int 4)) (peekE 1)) (consA (cE (.int 0)) (consA (cE (.int 1)) nilA)))) nilA))))) (b := (.v (bin2 addM (cE (.int 2)) (callE (callN 2 F__law_draw) [] (consA (varE 0) (consA (cE (.int 5)) nilA)))))) a_found a_high (by decide) (by decide +kernel) (by decide +kernel) (so_lst (sa_cons (se_tup (sa_cons se_int (sa_cons se_int (sa_cons se_int sa_nil)))) (sa_cons (se_tup (sa_cons (se_bin op_mulM vp_mul (toP se_int) v_teeth.peek) (sa_cons se_int (sa_cons se_int sa_nil)))) sa_nil))) (se_bin op_addM vp_add (toP se_int) (toP (J.call tk (f__law_draw M) (by decide) g__law_draw (sa_cons v_purse.var (sa_cons se_int sa_nil))))) (by rfl)) (ss_cons (ss_for hp J.calm (si_rng3 b_range (sa_cons (se_bin op_subM vp_sub v_teeth.peek (toP se_int)) (sa_cons (se_un un_neg vp_neg (toP se_int)) (sa_cons (se_un un_neg vp_neg (toP se_int)) sa_nil)))) a_tooth.tg (ss_cons (ss_mut PySem.F.slot_list_append PySem.F.type_list_append mt_append vm_append v_found.raw (sa_cons (se_tup (sa_cons (se_bin op_addM vp_add (toP (se_bin op_addM vp_add (toP (se_bin op_mulM vp_mul (toP se_int) v_tooth.peek)) (toP se_int))) (toP (se_bin op_mulM vp_mul (toP (J.call tk (f__law_draw M) (by decide) g__law_draw (sa_cons v_purse.var (sa_cons se_int sa_nil)))) (toP (se_callT call_int1 vp_toInt b_int (spa_cons (toP (se_cmp J.opEq vp_eq (nomark _) (toP (se_bin op_addM vp_add v_tooth.peek (toP se_int))) v_teeth.peek)) spa_nil)))))) (sa_cons (se_bin op_addM vp_add v_high.peek (toP (J.call tk (f__law_draw M) (by decide) g__law_draw (sa_cons v_purse.var (sa_cons se_int sa_nil))))) (sa_cons se_int sa_nil)))) sa_nil)) (ss_one (ss_mut PySem.F.slot_list_append PySem.F.type_list_append mt_append vm_append v_found.raw (sa_cons (se_tup (sa_cons (se_bin op_addM vp_add (toP (se_bin op_addM vp_add (toP (se_bin op_mulM vp_mul (toP se_int) v_tooth.peek)) (toP se_int))) (toP (J.call tk (f__law_draw M) (by decide) g__law_draw (sa_cons v_purse.var (sa_cons se_int sa_nil))))) (sa_cons se_int (sa_cons se_int sa_nil)))) sa_nil))))) (ss_fz 2 (ss_one (ss_ret v_found.var)))))
theorem f__law_comb (M : Md fa fn ex K mg) : FnS R.prog w K mg base 3 "_law_comb" 2 [] F__law_comb := (fb__law_comb M).s (fun fd F => Md.bindN F fun _ _ _ _ _ _ us hl => match us, hl with | [_, _], _ => rfl)
def b__law_grown : SM := (seqS (setS 3 (wrapL (callBO listM (consA (peekE 1) nilA)))) (seqS (forS (nameT 4) (itB rng1M (consA (varE 2) nilA)) (seqS (setS 3 (wrapL (compO [11, 12, 7] (itAny (varE 3)) (tupT 3 (consT (nameT 11) (consT (nameT 12) (consT (nameT 7) nilT)))) yesT (tupE (consA (bin2 mulM (cE (.int 4)) (peekE 11)) (consA (bin2 mulM (cE (.int 4)) (peekE 12)) (consA (cE (.int 1)) nilA))))))) (seqS (par2S 5 6 (.v (callE (callN 2 F__law_draw) [] (consA (varE 0) (consA (callB lenM (consA (peekE 3) nilA)) nilA)))) (.v (callE (callN 2 F__law_one_of) [] (consA (varE 0) (consA (wrapL (lstO (consA (un1 negM (cE (.int 3))) (consA (un1 negM (cE (.int 2))) (consA (un1 negM (cE (.int 1))) (consA (cE (.int 1)) (consA (cE (.int 2)) (consA (cE (.int 3)) nilA)))))))) nilA))))) (seqS (par2S 7 8 (.v (bin2 ixDM (peekE 3) (peekE 5))) (.v (bin2 ixDM (peekE 3) (bin2 modM (callB intM (consA (bin2 addM (peekE 5) (cE (.int 1))) nilA)) (callB lenM (consA (peekE 3) nilA)))))) (seqS (setS 9 (tupE (consA (bin2 addM (bin2 divM (bin2 addM (bin2 ixDM (peekE 7) (cE (.int 0))) (bin2 ixDM (peekE 8) (cE (.int 0)))) (cE (.int 2))) (bin2 divM (bin2 mulM (bin2 subM (bin2 ixDM (peekE 8) (cE (.int 1))) (bin2 ixDM (peekE 7) (cE (.int 1)))) (peekE 6)) (cE (.int 4)))) (consA (bin2 subM (bin2 divM (bin2 addM (bin2 ixDM (peekE 7) (cE (.int 1))) (bin2 ixDM (peekE 8) (cE (.int 1)))) (cE (.int 2))) (bin2 divM (bin2 mulM (bin2 subM (bin2 ixDM (peekE 8) (cE (.int 0))) (bin2 ixDM (peekE 7) (cE (.int 0)))) (peekE 6)) (cE (.int 4)))) (consA (cE (.int 1)) nilA))))) (seqS (setS 10 (bin2 addM (bin2 addM (slV (peekE 3) noP (prtP (bin2 addM (peekE 5) (cE (.int 1))))) (wrapL (lstO (consA (varE 9) nilA)))) (slV (peekE 3) (prtP (bin2 addM (peekE 5) (cE (.int 1)))) noP))) (setS 3 (ifE (tstE (callE (callN 1 F__law_is_simple) [] (consA (varE 10) nilA))) (varE 10) (varE 3))))))))) (retS (varE 3))))
def F__law_grown : List MV → MH → Res MV := bodyF 13 3 b__law_grown
theorem fb__law_grown (M : Md fa fn ex K mg) : FnB R.prog w K mg base 5 "_law_grown" ["purse", "corners", "turns"] 3 d__law_grown F__law_grown := by
  refine M.fb (N := ["purse", "corners", "turns", "found", "spin", "at", "long", "one", "other", "tip", "late", "x", "y"]) (ps := ["purse", "corners", "turns"]) 65 (d := d__law_grown) rfl (M.glo 61) rfl ⟨rfl, rfl, rfl, by decide +kernel, rfl, by decide +kernel, by decide +kernel⟩ rfl fun X J hp W tk => ?_
  have v_corners : NmV _ "corners" 1 := J.v (by decide +kernel)
  have b_list : NmB _ "list" (.type "list") := J.b (m_list M) bt_list (by decide +kernel)
  have a_found : NmA _ "found" 3 := J.a (by decide +kernel)
  have v_turns : NmV _ "turns" 2 := J.v (by decide +kernel)
  have b_range : NmB _ "range" (.type "range") := J.b (m_range M) bt_range (by decide +kernel)
  have a_spin : NmA _ "spin" 4 := J.a (by decide +kernel)
  have v_found : NmV _ "found" 3 := J.v (by decide +kernel)
  have a_at : NmA _ "at" 5 := J.a (by decide +kernel)
  have a_long : NmA _ "long" 6 := J.a (by decide +kernel)
  have b_len : NmB _ "len" (.builtin "len") := J.b (m_len M) bt_len (by decide +kernel)
  have v_purse : NmV _ "purse" 0 := J.v (by decide +kernel)
  have g__law_draw : NmG _ "_law_draw" := J.g (by decide +kernel)
  have g__law_one_of : NmG _ "_law_one_of" := J.g (by decide +kernel)
  have a_one : NmA _ "one" 7 := J.a (by decide +kernel)
  have a_other : NmA _ "other" 8 := J.a (by decide +kernel)
  have v_at : NmV _ "at" 5 := J.v (by decide +kernel)
  have b_int : NmB _ "int" (.type "int") := J.b (m_int M) bt_int (by decide +kernel)
  have v_one : NmV _ "one" 7 := J.v (by decide +kernel)
  have v_other : NmV _ "other" 8 := J.v (by decide +kernel)
  have v_long : NmV _ "long" 6 := J.v (by decide +kernel)
  have a_tip : NmA _ "tip" 9 := J.a (by decide +kernel)
  have v_tip : NmV _ "tip" 9 := J.v (by decide +kernel)
  have a_late : NmA _ "late" 10 := J.a (by decide +kernel)
  have v_late : NmV _ "late" 10 := J.v (by decide +kernel)
  have g__law_is_simple : NmG _ "_law_is_simple" := J.g (by decide +kernel)
  exact (ss_cons (a_found.set (ofO (so_callT call_list_of vo_list b_list (spa_cons v_corners.peek spa_nil)))) (ss_cons (ss_for hp J.calm (si_rng1 b_range (sa_cons v_turns.var sa_nil)) a_spin.tg (ss_cons (J.setLcJ a_found (by decide +kernel) (by rfl) (vs := [("x", 11), ("y", 12), ("one", 7)]) (toIP (si_any v_found.var)) (by decide +kernel) (fun s H C cl fp J => by
  have a_one : NmA _ "one" 7 := J.a (by decide +kernel)
  have a_y : NmA _ "y" 12 := J.a (by decide +kernel)
  have a_x : NmA _ "x" 11 := J.a (by decide +kernel)
  exact (sg_tup J.calm (sgs_cons a_x.tg (sgs_cons a_y.tg (sgs_cons a_one.tg sgs_nil))))) (fun s H C cl fp J => sts_nil) (fun s H C cl fp J => by
  have v_y : NmV _ "y" 12 := J.v (by decide +kernel)
  have v_x : NmV _ "x" 11 := J.v (by decide +kernel)
  exact (se_tup (sa_cons (se_bin op_mulM vp_mul (toP se_int) v_x.peek) (sa_cons (se_bin op_mulM vp_mul (toP se_int) v_y.peek) (sa_cons se_int sa_nil))))) (by decide)) (ss_cons (J.par2 (a := (.v (callE (callN 2 F__law_draw) [] (consA (varE 0) (consA (callB lenM (consA (peekE 3) nilA)) nilA))))) (b := (.v (callE (callN 2 F__law_one_of) [] (consA (varE 0) (consA (wrapL (lstO (consA (un1 negM (cE (.int 3))) (consA (un1 negM (cE (.int 2))) (consA (un1 negM (cE (.int 1))) (consA (cE (.int 1)) (consA (cE (.int 2)) (consA (cE (.int 3)) nilA)))))))) nilA))))) a_at a_long (by decide) (by decide +kernel) (by decide +kernel) (J.call tk (f__law_draw M) (by decide) g__law_draw (sa_cons v_purse.var (sa_cons (se_callB call_len vp_len b_len (spa_cons v_found.peek spa_nil)) sa_nil))) (J.call tk (f__law_one_of M) (by decide) g__law_one_of (sa_cons v_purse.var (sa_cons (ofO (so_lst (sa_cons (se_un un_neg vp_neg (toP se_int)) (sa_cons (se_un un_neg vp_neg (toP se_int)) (sa_cons (se_un un_neg vp_neg (toP se_int)) (sa_cons se_int (sa_cons se_int (sa_cons se_int sa_nil)))))))) sa_nil))) (by rfl)) (ss_cons (J.par2 (a := (.v (bin2 ixDM (peekE 3) (peekE 5)))) (b := (.v (bin2 ixDM (peekE 3) (bin2 modM (callB intM (consA (bin2 addM (peekE 5) (cE (.int 1))) nilA)) (callB lenM (consA (peekE 3) nilA)))))) a_one a_other (by decide) (by decide +kernel) (by decide +kernel) (se_at J.units (fun _ _ => rfl) (fun _ _ => rfl) v_found.peek v_at.peek) (se_at J.units (fun _ _ => rfl) (fun _ _ => rfl) v_found.peek (toP (se_bin op_modN vp_mod (toP (se_callT call_int1 vp_toInt b_int (spa_cons (toP (se_bin op_addM vp_add v_at.peek (toP se_int))) spa_nil))) (toP (se_callB call_len vp_len b_len (spa_cons v_found.peek spa_nil)))))) (by rfl)) (ss_cons (a_tip.set (se_tup (sa_cons (se_bin op_addM vp_add (toP (se_bin op_fdivG vp_div (toP (se_bin op_addM vp_add (toP (se_at J.units (fun _ _ => rfl) (fun _ _ => rfl) v_one.peek (toP se_int))) (toP (se_at J.units (fun _ _ => rfl) (fun _ _ => rfl) v_other.peek (toP se_int))))) (toP se_int))) (toP (se_bin op_fdivG vp_div (toP (se_bin op_mulM vp_mul (toP (se_bin op_subM vp_sub (toP (se_at J.units (fun _ _ => rfl) (fun _ _ => rfl) v_other.peek (toP se_int))) (toP (se_at J.units (fun _ _ => rfl) (fun _ _ => rfl) v_one.peek (toP se_int))))) v_long.peek)) (toP se_int)))) (sa_cons (se_bin op_subM vp_sub (toP (se_bin op_fdivG vp_div (toP (se_bin op_addM vp_add (toP (se_at J.units (fun _ _ => rfl) (fun _ _ => rfl) v_one.peek (toP se_int))) (toP (se_at J.units (fun _ _ => rfl) (fun _ _ => rfl) v_other.peek (toP se_int))))) (toP se_int))) (toP (se_bin op_fdivG vp_div (toP (se_bin op_mulM vp_mul (toP (se_bin op_subM vp_sub (toP (se_at J.units (fun _ _ => rfl) (fun _ _ => rfl) v_other.peek (toP se_int))) (toP (se_at J.units (fun _ _ => rfl) (fun _ _ => rfl) v_one.peek (toP se_int))))) v_long.peek)) (toP se_int)))) (sa_cons se_int sa_nil))))) (ss_cons (a_late.set (se_bin op_addM vp_add (toP (se_bin op_addM vp_add (toP (se_slV v_found.peek spo_none (spo_some (toP (se_bin op_addM vp_add v_at.peek (toP se_int)))))) (toP (ofO (so_lst (sa_cons v_tip.var sa_nil)))))) (toP (se_slV v_found.peek (spo_some (toP (se_bin op_addM vp_add v_at.peek (toP se_int)))) spo_none)))) (ss_one (a_found.set (se_if (st_val (J.call tk (f__law_is_simple M) (by decide) g__law_is_simple (sa_cons v_late.var sa_nil))) v_late.var v_found.var))))))))) (ss_one (ss_ret v_found.var))))
theorem f__law_grown (M : Md fa fn ex K mg) : FnS R.prog w K mg base 5 "_law_grown" 3 [] F__law_grown := (fb__law_grown M).s (fun fd F => Md.bindN F fun _ _ _ _ _ _ us hl => match us, hl with | [_, _, _], _ => rfl)
def b__law_room : SM := (seqS (setS 2 (callE (callN 2 F__law_draw) [] (consA (varE 0) (consA (cE (.int 4)) nilA)))) (seqS (setS 3 (ifE (tstE (bin2 eqM (peekE 2) (cE (.int 0)))) (callE (callN 2 F__law_comb) [] (consA (varE 0) (consA (bin2 addM (cE (.int 1)) (callE (callN 2 F__law_draw) [] (consA (varE 0) (consA (callB maxM (consA (bin2 divM (peekE 1) (cE (.int 3))) (consA (cE (.int 1)) nilA))) nilA)))) nilA))) (callE (callN 2 F__law_star) [] (consA (varE 0) (consA (varE 1) nilA))))) (seqS (ifS (tstE (bin2 gtM (peekE 2) (cE (.int 1)))) (setS 3 (callE (callN 3 F__law_grown) [] (consA (varE 0) (consA (slV (wrapL (lstO (consA (tupE (consA (cE (.int 0)) (consA (cE (.int 0)) (consA (cE (.int 1)) nilA)))) (consA (tupE (consA (cE (.int 6)) (consA (cE (.int 0)) (consA (cE (.int 1)) nilA)))) (consA (tupE (consA (cE (.int 6)) (consA (cE (.int 4)) (consA (cE (.int 1)) nilA)))) (consA (tupE (consA (cE (.int 0)) (consA (cE (.int 5)) (consA (cE (.int 1)) nilA)))) nilA)))))) noP (prtP (bin2 addM (cE (.int 3)) (callE (callN 2 F__law_draw) [] (consA (varE 0) (consA (cE (.int 2)) nilA)))))) (consA (callB maxM (consA (bin2 subM (peekE 1) (cE (.int 4))) (consA (cE (.int 0)) nilA))) nilA))))) nextS) (seqS (setS 3 (ifE (andT (tstE (callE (callN 1 F__law_is_simple) [] (consA (varE 3) nilA))) (tstE (bin2 leM (callB lenM (consA (peekE 3) nilA)) (peekE 1)))) (varE 3) (wrapL (lstO (consA (tupE (consA (cE (.int 0)) (consA (cE (.int 0)) (consA (cE (.int 1)) nilA)))) (consA (tupE (consA (cE (.int 5)) (consA (cE (.int 0)) (consA (cE (.int 1)) nilA)))) (consA (tupE (consA (cE (.int 0)) (consA (cE (.int 3)) (consA (cE (.int 1)) nilA)))) nilA))))))) (seqS (ifS (tstE (bin2 eqM (callE (callN 2 F__law_draw) [] (consA (varE 0) (consA (cE (.int 2)) nilA))) (cE (.int 0)))) (setS 3 (wrapL (compO [7, 8, 9] (itAny (wrapL (revO (peekE 3)))) (tupT 3 (consT (nameT 7) (consT (nameT 8) (consT (nameT 9) nilT)))) yesT (tupE (consA (bin2 subM (cE (.int 0)) (peekE 7)) (consA (varE 8) (consA (cE (.int 1)) nilA))))))) nextS) (seqS (par2S 4 5 (.v (callE (callN 2 F__law_draw) [] (consA (varE 0) (consA (callB lenM (consA (peekE 3) nilA)) nilA)))) (.v (callE (callN 2 F__law_one_of) [] (consA (varE 0) (consA (wrapL (lstO (consA (cE (.int 1)) (consA (cE (.int 1)) (consA (cE (.int 2)) (consA (cE (.int 3)) nilA)))))) nilA))))) (seqS (setS 3 (ifE (tstE (bin2 gtM (callE (callN 1 F__law_twice) [] (consA (varE 3) nilA)) (cE (.int 0)))) (varE 3) (wrapL (revO (peekE 3))))) (seqS (setS 6 (tupE (consA (bin2 subM (callE (callN 2 F__law_draw) [] (consA (varE 0) (consA (cE (.int 9)) nilA))) (cE (.int 4))) (consA (bin2 subM (callE (callN 2 F__law_draw) [] (consA (varE 0) (consA (cE (.int 9)) nilA))) (cE (.int 4))) nilA)))) (retS (wrapL (compO [7, 8, 9] (itAny (bin2 addM (slV (peekE 3) (prtP (peekE 4)) noP) (slV (peekE 3) noP (prtP (peekE 4))))) (tupT 3 (consT (nameT 7) (consT (nameT 8) (consT (nameT 9) nilT)))) yesT (tupE (consA (bin2 addM (peekE 7) (bin2 ixDM (peekE 6) (cE (.int 0)))) (consA (bin2 addM (peekE 8) (bin2 ixDM (peekE 6) (cE (.int 1)))) (consA (varE 5) nilA)))))))))))))))
def F__law_room : List MV → MH → Res MV := bodyF 10 2 b__law_room
theorem fb__law_room (M : Md fa fn ex K mg) : FnB R.prog w K mg base 6 "_law_room" ["purse", "most"] 2 d__law_room F__law_room := by
  refine M.fb (N := ["purse", "most", "way", "found", "at", "part", "move", "x", "y", "one"]) (ps := ["purse", "most"]) 66 (d := d__law_room) rfl (M.glo 62) rfl ⟨rfl, rfl, rfl, by decide +kernel, rfl, by decide +kernel, by decide +kernel⟩ rfl fun X J hp W tk => ?_
  have v_purse : NmV _ "purse" 0 := J.v (by decide +kernel)
  have g__law_draw : NmG _ "_law_draw" := J.g (by decide +kernel)
  have a_way : NmA _ "way" 2 := J.a (by decide +kernel)
  have v_way : NmV _ "way" 2 := J.v (by decide +kernel)
  have v_most : NmV _ "most" 1 := J.v (by decide +kernel)
  have b_max : NmB _ "max" (.builtin "max") := J.b (m_max M) bt_max (by decide +kernel)
  have g__law_comb : NmG _ "_law_comb" := J.g (by decide +kernel)
  have g__law_star : NmG _ "_law_star" := J.g (by decide +kernel)
  have a_found : NmA _ "found" 3 := J.a (by decide +kernel)
  have g__law_grown : NmG _ "_law_grown" := J.g (by decide +kernel)
  have v_found : NmV _ "found" 3 := J.v (by decide +kernel)
  have g__law_is_simple : NmG _ "_law_is_simple" := J.g (by decide +kernel)
  have b_len : NmB _ "len" (.builtin "len") := J.b (m_len M) bt_len (by decide +kernel)
  have a_at : NmA _ "at" 4 := J.a (by decide +kernel)
  have a_part : NmA _ "part" 5 := J.a (by decide +kernel)
  have g__law_one_of : NmG _ "_law_one_of" := J.g (by decide +kernel)
  have g__law_twice : NmG _ "_law_twice" := J.g (by decide +kernel)
  have a_move : NmA _ "move" 6 := J.a (by decide +kernel)
  have v_at : NmV _ "at" 4 := J.v (by decide +kernel)
  exact (ss_cons (a_way.set (J.call tk (f__law_draw M) (by decide) g__law_draw (sa_cons v_purse.var (sa_cons se_int sa_nil)))) (ss_cons (a_found.set (se_if (st_cmp J.opEq vp_eq (nomark _) v_way.peek (toP se_int)) (J.call tk (f__law_comb M) (by decide) g__law_comb (sa_cons v_purse.var (sa_cons (se_bin op_addM vp_add (toP se_int) (toP (J.call tk (f__law_draw M) (by decide) g__law_draw (sa_cons v_purse.var (sa_cons (se_callB (cr_maxM J.calm) vp_max b_max (spa_cons (toP (se_bin op_fdivG vp_div v_most.peek (toP se_int))) (spa_cons (toP se_int) spa_nil))) sa_nil))))) sa_nil))) (J.call tk (f__law_star M) (by decide) g__law_star (sa_cons v_purse.var (sa_cons v_most.var sa_nil))))) (ss_cons (ss_if (st_cmp op_gtM vp_gt (nomark _) v_way.peek (toP se_int)) (ss_one (a_found.set (J.call tk (f__law_grown M) (by decide) g__law_grown (sa_cons v_purse.var (sa_cons (se_slV (toP (ofO (so_lst (sa_cons (se_tup (sa_cons se_int (sa_cons se_int (sa_cons se_int sa_nil)))) (sa_cons (se_tup (sa_cons se_int (sa_cons se_int (sa_cons se_int sa_nil)))) (sa_cons (se_tup (sa_cons se_int (sa_cons se_int (sa_cons se_int sa_nil)))) (sa_cons (se_tup (sa_cons se_int (sa_cons se_int (sa_cons se_int sa_nil)))) sa_nil))))))) spo_none (spo_some (toP (se_bin op_addM vp_add (toP se_int) (toP (J.call tk (f__law_draw M) (by decide) g__law_draw (sa_cons v_purse.var (sa_cons se_int sa_nil)))))))) (sa_cons (se_callB (cr_maxM J.calm) vp_max b_max (spa_cons (toP (se_bin op_subM vp_sub v_most.peek (toP se_int))) (spa_cons (toP se_int) spa_nil))) sa_nil)))))) ss_nil) (ss_cons (a_found.set (se_if (sw_and (st_val (J.call tk (f__law_is_simple M) (by decide) g__law_is_simple (sa_cons v_found.var sa_nil))) (sw_and1 (st_cmp op_leM vp_le (nomark _) (toP (se_callB call_len vp_len b_len (spa_cons v_found.peek spa_nil))) v_most.peek))).pt v_found.var (ofO (so_lst (sa_cons (se_tup (sa_cons se_int (sa_cons se_int (sa_cons se_int sa_nil)))) (sa_cons (se_tup (sa_cons se_int (sa_cons se_int (sa_cons se_int sa_nil)))) (sa_cons (se_tup (sa_cons se_int (sa_cons se_int (sa_cons se_int sa_nil)))) sa_nil))))))) (ss_cons (ss_if (st_cmp J.opEq vp_eq (nomark _) (toP (J.call tk (f__law_draw M) (by decide) g__law_draw (sa_cons v_purse.var (sa_cons se_int sa_nil)))) (toP se_int)) (ss_one (J.setLcJ a_found (by decide +kernel) (by rfl) (vs := [("x", 7), ("y", 8), ("one", 9)]) (toIP (si_any (ofO (so_rev v_found.peek)))) (by decide +kernel) (fun s H C cl fp J => by
  have a_one : NmA _ "one" 9 := J.a (by decide +kernel)
  have a_y : NmA _ "y" 8 := J.a (by decide +kernel)
  have a_x : NmA _ "x" 7 := J.a (by decide +kernel)
  exact (sg_tup J.calm (sgs_cons a_x.tg (sgs_cons a_y.tg (sgs_cons a_one.tg sgs_nil))))) (fun s H C cl fp J => sts_nil) (fun s H C cl fp J => by
  have v_y : NmV _ "y" 8 := J.v (by decide +kernel)
  have v_x : NmV _ "x" 7 := J.v (by decide +kernel)
  exact (se_tup (sa_cons (se_bin op_subM vp_sub (toP se_int) v_x.peek) (sa_cons v_y.var (sa_cons se_int sa_nil))))) (by decide))) ss_nil) (ss_cons (J.asg2 (a := (.v (callE (callN 2 F__law_draw) [] (consA (varE 0) (consA (callB lenM (consA (peekE 3) nilA)) nilA))))) (b := (.v (callE (callN 2 F__law_one_of) [] (consA (varE 0) (consA (wrapL (lstO (consA (cE (.int 1)) (consA (cE (.int 1)) (consA (cE (.int 2)) (consA (cE (.int 3)) nilA)))))) nilA))))) a_at a_part (by decide) (J.call tk (f__law_draw M) (by decide) g__law_draw (sa_cons v_purse.var (sa_cons (se_callB call_len vp_len b_len (spa_cons v_found.peek spa_nil)) sa_nil))) (J.call tk (f__law_one_of M) (by decide) g__law_one_of (sa_cons v_purse.var (sa_cons (ofO (so_lst (sa_cons se_int (sa_cons se_int (sa_cons se_int (sa_cons se_int sa_nil)))))) sa_nil))) (by rfl)) (ss_cons (a_found.set (se_if (st_cmp op_gtM vp_gt (nomark _) (toP (J.call tk (f__law_twice M) (by decide) g__law_twice (sa_cons v_found.var sa_nil))) (toP se_int)) v_found.var (ofO (so_rev v_found.peek)))) (ss_cons (a_move.set (se_tup (sa_cons (se_bin op_subM vp_sub (toP (J.call tk (f__law_draw M) (by decide) g__law_draw (sa_cons v_purse.var (sa_cons se_int sa_nil)))) (toP se_int)) (sa_cons (se_bin op_subM vp_sub (toP (J.call tk (f__law_draw M) (by decide) g__law_draw (sa_cons v_purse.var (sa_cons se_int sa_nil)))) (toP se_int)) sa_nil)))) (ss_one (ss_ret (ofO (J.compJ (vs := [("x", 7), ("y", 8), ("one", 9)]) (toIP (si_any (se_bin op_addM vp_add (toP (se_slV v_found.peek (spo_some v_at.peek) spo_none)) (toP (se_slV v_found.peek spo_none (spo_some v_at.peek)))))) (by decide +kernel) (fun s H C cl fp J => by
  have a_one : NmA _ "one" 9 := J.a (by decide +kernel)
  have a_y : NmA _ "y" 8 := J.a (by decide +kernel)
  have a_x : NmA _ "x" 7 := J.a (by decide +kernel)
  exact (sg_tup J.calm (sgs_cons a_x.tg (sgs_cons a_y.tg (sgs_cons a_one.tg sgs_nil))))) (fun s H C cl fp J => sts_nil) (fun s H C cl fp J => by
  have v_part : NmV _ "part" 5 := J.v (by decide +kernel)
  have v_y : NmV _ "y" 8 := J.v (by decide +kernel)
  have v_move : NmV _ "move" 6 := J.v (by decide +kernel)
  have v_x : NmV _ "x" 7 := J.v (by decide +kernel)
  exact (se_tup (sa_cons (se_bin op_addM vp_add v_x.peek (toP (se_at J.units (fun _ _ => rfl) (fun _ _ => rfl) v_move.peek (toP se_int)))) (sa_cons (se_bin op_addM vp_add v_y.peek (toP (se_at J.units (fun _ _ => rfl) (fun _ _ => rfl) v_move.peek (toP se_int)))) (sa_cons v_part.var sa_nil))))) (by decide)))))))))))))
theorem f__law_room (M : Md fa fn ex K mg) : FnS R.prog w K mg base 6 "_law_room" 2 [] F__law_room := (fb__law_room M).s (fun fd F => Md.bindN F fun _ _ _ _ _ _ us hl => match us, hl with | [_, _], _ => rfl)
def b__law_told_room : SM := (retS (wrapL (compO [1] (itAny (varE 0)) (nameT 1) yesT (callE (callN 1 F__law_out) [] (consA (varE 1) nilA)))))
def F__law_told_room : List MV → MH → Res MV := bodyF 2 1 b__law_told_room
theorem fb__law_told_room (M : Md fa fn ex K mg) : FnB R.prog w K mg base 3 "_law_told_room" ["corners"] 1 d__law_told_room F__law_told_room := by
  refine M.fb (N := ["corners", "corner"]) (ps := ["corners"]) 67 (d := d__law_told_room) rfl (M.glo 63) rfl ⟨rfl, rfl, rfl, by decide +kernel, rfl, by decide +kernel, by decide +kernel⟩ rfl fun X J hp W tk => ?_
  have v_corners : NmV _ "corners" 0 := J.v (by decide +kernel)
  exact (ss_one (ss_ret (ofO (J.compJ (vs := [("corner", 1)]) (toIP (si_any v_corners.var)) (by decide +kernel) (fun s H C cl fp J => by
  have a_corner : NmA _ "corner" 1 := J.a (by decide +kernel)
  exact a_corner.tg) (fun s H C cl fp J => sts_nil) (fun s H C cl fp J => by
  have v_corner : NmV _ "corner" 1 := J.v (by decide +kernel)
  have g__law_out : NmG _ "_law_out" := J.g (by decide +kernel)
  exact (J.call takes_no (f__law_out M) (by decide) g__law_out (sa_cons v_corner.var sa_nil))) (by decide)))))
theorem f__law_told_room (M : Md fa fn ex K mg) : FnS R.prog w K mg base 3 "_law_told_room" 1 [] F__law_told_room := (fb__law_told_room M).s (fun fd F => Md.bindN F fun _ _ _ _ _ _ us hl => match us, hl with | [_], _ => rfl)
def b__law_picture : SM := (seqS (par2S 3 4 (.o (lstO nilA)) (.v (dispE (consD (cE (.str [99, 111, 114, 110, 101, 114])) (cE (.str [43])) (consD (cE (.str [119, 97, 108, 108])) (cE (.str [45])) (consD (cE (.str [105, 110, 115, 105, 100, 101])) (cE (.str [35])) (consD (cE (.str [111, 117, 116, 115, 105, 100, 101])) (cE (.str [46])) nilD))))))) (seqS (forS (nameT 5) (itB rng3M (consA (varE 2) (consA (bin2 subM (cE (.int 0)) (cE (.int 1))) (consA (bin2 subM (cE (.int 0)) (cE (.int 1))) nilA)))) (mutS 3 appendM (consA (strE (cE (.str [])) fun s => un1 (fun h x => joinM s h [x]) (wrapL (compO [6] (itB rng1M (consA (bin2 addM (peekE 1) (cE (.int 1))) nilA)) (nameT 6) yesT (bin2 ixDM (peekE 4) (callE (callN 2 F__law_where) [] (consA (varE 0) (consA (tupE (consA (varE 6) (consA (varE 5) (consA (cE (.int 1)) nilA)))) nilA))))))) nilA))) (retS (strE (cE (.str [10])) fun s => un1 (fun h x => joinM s h [x]) (peekE 3)))))
def F__law_picture : List MV → MH → Res MV := bodyF 7 3 b__law_picture
theorem fb__law_picture (M : Md fa fn ex K mg) : FnB R.prog w K mg base 4 "_law_picture" ["corners", "wide", "high"] 3 d__law_picture F__law_picture := by
  refine M.fb (N := ["corners", "wide", "high", "rows", "signs", "y", "x"]) (ps := ["corners", "wide", "high"]) 68 (d := d__law_picture) rfl (M.glo 64) rfl ⟨rfl, rfl, rfl, by decide +kernel, rfl, by decide +kernel, by decide +kernel⟩ rfl fun X J hp W tk => ?_
  have a_rows : NmA _ "rows" 3 := J.a (by decide +kernel)
  have a_signs : NmA _ "signs" 4 := J.a (by decide +kernel)
  have v_high : NmV _ "high" 2 := J.v (by decide +kernel)
  have b_range : NmB _ "range" (.type "range") := J.b (m_range M) bt_range (by decide +kernel)
  have a_y : NmA _ "y" 5 := J.a (by decide +kernel)
  have v_wide : NmV _ "wide" 1 := J.v (by decide +kernel)
  have v_rows : NmV _ "rows" 3 := J.v (by decide +kernel)
  exact (ss_cons (J.asg2 (a := (.o (lstO nilA))) (b := (.v (dispE (consD (cE (.str [99, 111, 114, 110, 101, 114])) (cE (.str [43])) (consD (cE (.str [119, 97, 108, 108])) (cE (.str [45])) (consD (cE (.str [105, 110, 115, 105, 100, 101])) (cE (.str [35])) (consD (cE (.str [111, 117, 116, 115, 105, 100, 101])) (cE (.str [46])) nilD))))))) a_rows a_signs (by decide) (so_lst sa_nil) (se_disp (sd_cons (se_str (by decide +kernel)) (se_str (by decide +kernel)) (sd_cons (se_str (by decide +kernel)) (se_str (by decide +kernel)) (sd_cons (se_str (by decide +kernel)) (se_str (by decide +kernel)) (sd_cons (se_str (by decide +kernel)) (se_str (by decide +kernel)) sd_nil)))) rfl rfl (List.cons_ne_nil _ _) (by decide)) (by rfl)) (ss_cons (ss_for hp J.calm (si_rng3 b_range (sa_cons v_high.var (sa_cons (se_bin op_subM vp_sub (toP se_int) (toP se_int)) (sa_cons (se_bin op_subM vp_sub (toP se_int) (toP se_int)) sa_nil)))) a_y.tg (ss_one (ss_mut PySem.F.slot_list_append PySem.F.type_list_append mt_append vm_append v_rows.raw (sa_cons (se_join (toP (se_str (by decide +kernel))) (toP (ofO (J.compJ (vs := [("x", 6)]) (toIP (si_rng1 b_range (sa_cons (se_bin op_addM vp_add v_wide.peek (toP se_int)) sa_nil))) (by decide +kernel) (fun s H C cl fp J => by
  have a_x : NmA _ "x" 6 := J.a (by decide +kernel)
  exact a_x.tg) (fun s H C cl fp J => sts_nil) (fun s H C cl fp J => by
  have v_signs : NmV _ "signs" 4 := J.v (by decide +kernel)
  have v_y : NmV _ "y" 5 := J.v (by decide +kernel)
  have v_x : NmV _ "x" 6 := J.v (by decide +kernel)
  have v_corners : NmV _ "corners" 0 := J.v (by decide +kernel)
  have g__law_where : NmG _ "_law_where" := J.g (by decide +kernel)
  exact (se_at J.units (fun _ _ => rfl) (fun _ _ => rfl) v_signs.peek (toP (J.call takes_no (f__law_where M) (by decide) g__law_where (sa_cons v_corners.var (sa_cons (se_tup (sa_cons v_x.var (sa_cons v_y.var (sa_cons se_int sa_nil)))) sa_nil)))))) (by decide))))) sa_nil)))) (ss_one (ss_ret (se_join (toP (se_str (by decide +kernel))) v_rows.peek)))))
theorem f__law_picture (M : Md fa fn ex K mg) : FnS R.prog w K mg base 4 "_law_picture" 3 [] F__law_picture := (fb__law_picture M).s (fun fd F => Md.bindN F fun _ _ _ _ _ _ us hl => match us, hl with | [_, _, _], _ => rfl)
def b__law_right : SM := (seqS (par3S 2 3 4 (.v (callE (callN 1 F__law_told_room) [] (consA (varE 1) nilA))) (.v (callE (callN 2 F__law_draw) [] (consA (varE 0) (consA (cE (.int 10)) nilA)))) (.v (callE (callN 2 F__law_draw) [] (consA (varE 0) (consA (cE (.int 10)) nilA))))) (seqS (par2S 5 6 (.v (callE (callN 1 F__law_copied) [] (consA (varE 2) nilA))) (.v (callE (callN 3 F__law_picture) [] (consA (varE 1) (consA (varE 3) (consA (varE 4) nilA)))))) (seqS (ifS (notT (tstE (callE (callN 2 F__law_exact) [] (consA (wrapL (lstO (consA (varE 6) (consA (varE 6) nilA)))) (consA (wrapL (lstO (consA (callE (callN 3 F_room_picture) [] (consA (varE 2) (consA (varE 3) (consA (varE 4) nilA)))) (consA (callKE 3 0 3 F_room_picture [2, 1, 0] nilA (consA (varE 4) (consA (varE 3) (consA (varE 2) nilA)))) nilA)))) nilA))))) (retS (cE (.bl false))) nextS) (seqS (setS 7 (wrapL (strO (peekE 6) fun s => bindE (cE (.str [10])) fun x _ h => optR (splitM s h [x]) h))) (seqS (forS (nameT 8) (itB rng1M (consA (cE (.int 5)) nilA)) (seqS (par2S 9 10 (.v (callE (callN 2 F__law_draw) [] (consA (varE 0) (consA (bin2 addM (peekE 3) (cE (.int 1))) nilA)))) (.v (callE (callN 2 F__law_draw) [] (consA (varE 0) (consA (bin2 addM (peekE 4) (cE (.int 1))) nilA))))) (ifS (tstE (bin2 neM (bin2 ixDM (dispE (consD (cE (.str [43])) (cE (.str [99, 111, 114, 110, 101, 114])) (consD (cE (.str [45])) (cE (.str [119, 97, 108, 108])) (consD (cE (.str [35])) (cE (.str [105, 110, 115, 105, 100, 101])) (consD (cE (.str [46])) (cE (.str [111, 117, 116, 115, 105, 100, 101])) nilD))))) (bin2 ixDM (bin2 ixDM (peekE 7) (bin2 subM (peekE 4) (peekE 10))) (peekE 9))) (callE (callN 2 F_where_is) [] (consA (varE 2) (consA (tupE (consA (tupE (consA (varE 9) (consA (cE (.int 1)) nilA))) (consA (tupE (consA (varE 10) (consA (cE (.int 1)) nilA))) nilA))) nilA))))) (retS (cE (.bl false))) nextS))) (seqS (setS 11 (wrapL (compO [9, 10, 13] (itAny (varE 1)) (tupT 3 (consT (nameT 9) (consT (nameT 10) (consT (nameT 13) nilT)))) yesT (tupE (consA (bin2 addM (peekE 9) (bin2 mulM (cE (.int 3)) (peekE 13))) (consA (bin2 addM (peekE 10) (bin2 mulM (cE (.int 2)) (peekE 13))) (consA (varE 13) nilA))))))) (seqS (setS 12 (wrapL (strO (callE (callN 3 F_room_picture) [] (consA (callE (callN 1 F__law_told_room) [] (consA (varE 11) nilA)) (consA (bin2 addM (peekE 3) (cE (.int 3))) (consA (bin2 addM (peekE 4) (cE (.int 2))) nilA)))) fun s => bindE (cE (.str [10])) fun x _ h => optR (splitM s h [x]) h))) (retS (andE (bin2 eqM (wrapL (compO [14] (itAny (slV (peekE 12) noP (prtP (bin2 addM (peekE 4) (cE (.int 1)))))) (nameT 14) yesT (slV (peekE 14) (prtP (cE (.int 3))) noP))) (peekE 7)) (callE (callN 2 F__law_exact) [] (consA (varE 5) (consA (varE 2) nilA))))))))))))
def F__law_right : List MV → MH → Res MV := bodyF 15 2 b__law_right
theorem fb__law_right (M : Md fa fn ex K mg) : FnB R.prog w K mg base 14 "_law_right" ["purse", "corners"] 2 d__law_right F__law_right := by
  refine M.fb (N := ["purse", "corners", "room", "wide", "high", "kept", "due", "rows", "spin", "x", "y", "far", "late", "w", "row"]) (ps := ["purse", "corners"]) 69 (d := d__law_right) rfl (M.glo 65) rfl ⟨rfl, rfl, rfl, by decide +kernel, rfl, by decide +kernel, by decide +kernel⟩ rfl fun X J hp W tk => ?_
  have a_room : NmA _ "room" 2 := J.a (by decide +kernel)
  have a_wide : NmA _ "wide" 3 := J.a (by decide +kernel)
  have a_high : NmA _ "high" 4 := J.a (by decide +kernel)
  have v_corners : NmV _ "corners" 1 := J.v (by decide +kernel)
  have g__law_told_room : NmG _ "_law_told_room" := J.g (by decide +kernel)
  have v_purse : NmV _ "purse" 0 := J.v (by decide +kernel)
  have g__law_draw : NmG _ "_law_draw" := J.g (by decide +kernel)
  have a_kept : NmA _ "kept" 5 := J.a (by decide +kernel)
  have a_due : NmA _ "due" 6 := J.a (by decide +kernel)
  have v_room : NmV _ "room" 2 := J.v (by decide +kernel)
  have g__law_copied : NmG _ "_law_copied" := J.g (by decide +kernel)
  have v_high : NmV _ "high" 4 := J.v (by decide +kernel)
  have v_wide : NmV _ "wide" 3 := J.v (by decide +kernel)
  have g__law_picture : NmG _ "_law_picture" := J.g (by decide +kernel)
  have g_room_picture : NmG _ "room_picture" := J.g (by decide +kernel)
  have v_due : NmV _ "due" 6 := J.v (by decide +kernel)
  have g__law_exact : NmG _ "_law_exact" := J.g (by decide +kernel)
  have a_rows : NmA _ "rows" 7 := J.a (by decide +kernel)
  have b_range : NmB _ "range" (.type "range") := J.b (m_range M) bt_range (by decide +kernel)
  have a_spin : NmA _ "spin" 8 := J.a (by decide +kernel)
  have a_x : NmA _ "x" 9 := J.a (by decide +kernel)
  have a_y : NmA _ "y" 10 := J.a (by decide +kernel)
  have v_rows : NmV _ "rows" 7 := J.v (by decide +kernel)
  have v_y : NmV _ "y" 10 := J.v (by decide +kernel)
  have v_x : NmV _ "x" 9 := J.v (by decide +kernel)
  have g_where_is : NmG _ "where_is" := J.g (by decide +kernel)
  have a_far : NmA _ "far" 11 := J.a (by decide +kernel)
  have v_far : NmV _ "far" 11 := J.v (by decide +kernel)
  have a_late : NmA _ "late" 12 := J.a (by decide +kernel)
  have v_late : NmV _ "late" 12 := J.v (by decide +kernel)
  have v_kept : NmV _ "kept" 5 := J.v (by decide +kernel)
  exact (ss_cons (J.par3 a_room a_wide a_high (by decide) (by decide) (by decide) (by decide +kernel) (by decide +kernel) (by decide +kernel) (J.call tk (f__law_told_room M) (by decide) g__law_told_room (sa_cons v_corners.var sa_nil)) (J.call tk (f__law_draw M) (by decide) g__law_draw (sa_cons v_purse.var (sa_cons se_int sa_nil))) (J.call tk (f__law_draw M) (by decide) g__law_draw (sa_cons v_purse.var (sa_cons se_int sa_nil))) (by rfl)) (ss_cons (J.par2 (a := (.v (callE (callN 1 F__law_copied) [] (consA (varE 2) nilA)))) (b := (.v (callE (callN 3 F__law_picture) [] (consA (varE 1) (consA (varE 3) (consA (varE 4) nilA)))))) a_kept a_due (by decide) (by decide +kernel) (by decide +kernel) (J.call tk (f__law_copied M) (by decide) g__law_copied (sa_cons v_room.var sa_nil)) (J.call tk (f__law_picture M) (by decide) g__law_picture (sa_cons v_corners.var (sa_cons v_wide.var (sa_cons v_high.var sa_nil)))) (by rfl)) (ss_cons (ss_if (st_not (st_val (J.call tk (f__law_exact M) (by decide) g__law_exact (sa_cons (ofO (so_lst (sa_cons v_due.var (sa_cons v_due.var sa_nil)))) (sa_cons (ofO (so_lst (sa_cons (J.call tk (f_room_picture M) (by decide) g_room_picture (sa_cons v_room.var (sa_cons v_wide.var (sa_cons v_high.var sa_nil)))) (sa_cons (J.callK0 tk (fk_room_picture_0_high_wide_room M) (by decide) g_room_picture (sk_cons v_high.var (sk_cons v_wide.var (sk_cons v_room.var sk_nil)))) sa_nil)))) sa_nil))))) (ss_one (ss_ret se_bl)) ss_nil) (ss_cons (a_rows.set (ofO (so_split v_due.peek (toP (se_str (by decide +kernel)))))) (ss_cons (ss_for hp J.calm (si_rng1 b_range (sa_cons se_int sa_nil)) a_spin.tg (ss_cons (J.par2 (a := (.v (callE (callN 2 F__law_draw) [] (consA (varE 0) (consA (bin2 addM (peekE 3) (cE (.int 1))) nilA))))) (b := (.v (callE (callN 2 F__law_draw) [] (consA (varE 0) (consA (bin2 addM (peekE 4) (cE (.int 1))) nilA))))) a_x a_y (by decide) (by decide +kernel) (by decide +kernel) (J.call tk (f__law_draw M) (by decide) g__law_draw (sa_cons v_purse.var (sa_cons (se_bin op_addM vp_add v_wide.peek (toP se_int)) sa_nil))) (J.call tk (f__law_draw M) (by decide) g__law_draw (sa_cons v_purse.var (sa_cons (se_bin op_addM vp_add v_high.peek (toP se_int)) sa_nil))) (by rfl)) (ss_one (ss_if (st_cmp J.opNe vp_ne (nomark _) (toP (se_at J.units (fun _ _ => rfl) (fun _ _ => rfl) (toP (se_disp (sd_cons (se_str (by decide +kernel)) (se_str (by decide +kernel)) (sd_cons (se_str (by decide +kernel)) (se_str (by decide +kernel)) (sd_cons (se_str (by decide +kernel)) (se_str (by decide +kernel)) (sd_cons (se_str (by decide +kernel)) (se_str (by decide +kernel)) sd_nil)))) rfl rfl (List.cons_ne_nil _ _) (by decide))) (toP (se_at J.units (fun _ _ => rfl) (fun _ _ => rfl) (toP (se_at J.units (fun _ _ => rfl) (fun _ _ => rfl) v_rows.peek (toP (se_bin op_subM vp_sub v_high.peek v_y.peek)))) v_x.peek)))) (toP (J.call tk (f_where_is M) (by decide) g_where_is (sa_cons v_room.var (sa_cons (se_tup (sa_cons (se_tup (sa_cons v_x.var (sa_cons se_int sa_nil))) (sa_cons (se_tup (sa_cons v_y.var (sa_cons se_int sa_nil))) sa_nil))) sa_nil))))) (ss_one (ss_ret se_bl)) ss_nil)))) (ss_cons (J.setLcJ a_far (by decide +kernel) (by rfl) (vs := [("x", 9), ("y", 10), ("w", 13)]) (toIP (si_any v_corners.var)) (by decide +kernel) (fun s H C cl fp J => by
  have a_w : NmA _ "w" 13 := J.a (by decide +kernel)
  have a_y : NmA _ "y" 10 := J.a (by decide +kernel)
  have a_x : NmA _ "x" 9 := J.a (by decide +kernel)
  exact (sg_tup J.calm (sgs_cons a_x.tg (sgs_cons a_y.tg (sgs_cons a_w.tg sgs_nil))))) (fun s H C cl fp J => sts_nil) (fun s H C cl fp J => by
  have v_w : NmV _ "w" 13 := J.v (by decide +kernel)
  have v_y : NmV _ "y" 10 := J.v (by decide +kernel)
  have v_x : NmV _ "x" 9 := J.v (by decide +kernel)
  exact (se_tup (sa_cons (se_bin op_addM vp_add v_x.peek (toP (se_bin op_mulM vp_mul (toP se_int) v_w.peek))) (sa_cons (se_bin op_addM vp_add v_y.peek (toP (se_bin op_mulM vp_mul (toP se_int) v_w.peek))) (sa_cons v_w.var sa_nil))))) (by decide)) (ss_cons (a_late.set (ofO (so_split (toP (J.call tk (f_room_picture M) (by decide) g_room_picture (sa_cons (J.call tk (f__law_told_room M) (by decide) g__law_told_room (sa_cons v_far.var sa_nil)) (sa_cons (se_bin op_addM vp_add v_wide.peek (toP se_int)) (sa_cons (se_bin op_addM vp_add v_high.peek (toP se_int)) sa_nil))))) (toP (se_str (by decide +kernel)))))) (ss_one (ss_ret (se_and (se_cmp J.opEq vp_eq (nomark _) (toP (ofO (J.compJ (vs := [("row", 14)]) (toIP (si_any (se_slV v_late.peek spo_none (spo_some (toP (se_bin op_addM vp_add v_high.peek (toP se_int))))))) (by decide +kernel) (fun s H C cl fp J => by
  have a_row : NmA _ "row" 14 := J.a (by decide +kernel)
  exact a_row.tg) (fun s H C cl fp J => sts_nil) (fun s H C cl fp J => by
  have v_row : NmV _ "row" 14 := J.v (by decide +kernel)
  exact (se_slV v_row.peek (spo_some (toP se_int)) spo_none)) (by decide)))) v_rows.peek) (se_one (J.call tk (f__law_exact M) (by decide) g__law_exact (sa_cons v_kept.var (sa_cons v_room.var sa_nil))))))))))))))
theorem f__law_right (M : Md fa fn ex K mg) : FnS R.prog w K mg base 14 "_law_right" 2 [] F__law_right := (fb__law_right M).s (fun fd F => Md.bindN F fun _ _ _ _ _ _ us hl => match us, hl with | [_, _], _ => rfl)
def b__law_nook : SM := (retS (wrapL (compO [0, 1] (itAny (wrapL (lstO (consA (tupE (consA (cE (.int 0)) (consA (cE (.int 0)) nilA))) (consA (tupE (consA (cE (.int 4)) (consA (cE (.int 0)) nilA))) (consA (tupE (consA (cE (.int 4)) (consA (cE (.int 2)) nilA))) (consA (tupE (consA (cE (.int 2)) (consA (cE (.int 2)) nilA))) (consA (tupE (consA (cE (.int 2)) (consA (cE (.int 4)) nilA))) (consA (tupE (consA (cE (.int 0)) (consA (cE (.int 4)) nilA))) nilA))))))))) (tupT 2 (consT (nameT 0) (consT (nameT 1) nilT))) yesT (tupE (consA (tupE (consA (varE 0) (consA (cE (.int 1)) nilA))) (consA (tupE (consA (varE 1) (consA (cE (.int 1)) nilA))) nilA))))))
def F__law_nook : List MV → MH → Res MV := bodyF 2 0 b__law_nook
theorem fb__law_nook (M : Md fa fn ex K mg) : FnB R.prog w K mg base 1 "_law_nook" [] 0 d__law_nook F__law_nook := by
  refine M.fb (N := ["x", "y"]) (ps := []) 70 (d := d__law_nook) rfl (M.glo 66) rfl ⟨rfl, rfl, rfl, by decide +kernel, rfl, by decide +kernel, by decide +kernel⟩ rfl fun X J hp W tk => ?_
  exact (ss_one (ss_ret (ofO (J.compJ (vs := [("x", 0), ("y", 1)]) (toIP (si_any (ofO (so_lst (sa_cons (se_tup (sa_cons se_int (sa_cons se_int sa_nil))) (sa_cons (se_tup (sa_cons se_int (sa_cons se_int sa_nil))) (sa_cons (se_tup (sa_cons se_int (sa_cons se_int sa_nil))) (sa_cons (se_tup (sa_cons se_int (sa_cons se_int sa_nil))) (sa_cons (se_tup (sa_cons se_int (sa_cons se_int sa_nil))) (sa_cons (se_tup (sa_cons se_int (sa_cons se_int sa_nil))) sa_nil)))))))))) (by decide +kernel) (fun s H C cl fp J => by
  have a_y : NmA _ "y" 1 := J.a (by decide +kernel)
  have a_x : NmA _ "x" 0 := J.a (by decide +kernel)
  exact (sg_tup J.calm (sgs_cons a_x.tg (sgs_cons a_y.tg sgs_nil)))) (fun s H C cl fp J => sts_nil) (fun s H C cl fp J => by
  have v_y : NmV _ "y" 1 := J.v (by decide +kernel)
  have v_x : NmV _ "x" 0 := J.v (by decide +kernel)
  exact (se_tup (sa_cons (se_tup (sa_cons v_x.var (sa_cons se_int sa_nil))) (sa_cons (se_tup (sa_cons v_y.var (sa_cons se_int sa_nil))) sa_nil)))) (by decide)))))
theorem f__law_nook (M : Md fa fn ex K mg) : FnS R.prog w K mg base 1 "_law_nook" 0 [] F__law_nook := (fb__law_nook M).s (fun fd F => Md.bindN F fun _ _ _ _ _ _ us hl => match us, hl with | [], _ => rfl)
def b_law : SM := (seqS (forS (nameT 1) (itAny (callE (callN 2 F__law_purses) [] (consA (varE 0) (consA (cE (.int 2)) nilA)))) (forS (nameT 2) (itB rng1M (consA (cE (.int 3)) nilA)) (ifS (notT (tstE (callE (callN 2 F__law_right) [] (consA (varE 1) (consA (callE (callN 2 F__law_room) [] (consA (varE 1) (consA (cE (.int 9)) nilA))) nilA))))) (retS (cE (.bl false))) nextS))) (seqS (setS 3 (callE (callN 0 F__law_nook) [] nilA)) (seqS (setS 4 (wrapL (lstO (consA (wrapL (strO (callE (callN 3 F_room_picture) [] (consA (varE 3) (consA (cE (.int 5)) (consA (cE (.int 4)) nilA)))) fun s => bindE (cE (.str [10])) fun x _ h => optR (splitM s h [x]) h)) (consA (callE (callN 3 F_room_picture) [] (consA (varE 3) (consA (cE (.int 0)) (consA (cE (.int 0)) nilA)))) (consA (callE (callN 3 F_room_picture) [] (consA (varE 3) (consA (cE (.int 7)) (consA (cE (.int 0)) nilA)))) (consA (callE (callN 3 F_room_picture) [] (consA (bin2 addM (slV (peekE 3) (prtP (cE (.int 1))) noP) (slV (peekE 3) noP (prtP (cE (.int 1))))) (consA (cE (.int 0)) (consA (cE (.int 2)) nilA)))) nilA))))))) (retS (callE (callN 2 F__law_exact) [] (consA (wrapL (lstO (consA (wrapL (lstO (consA (cE (.str [43, 45, 43, 46, 46, 46])) (consA (cE (.str [45, 35, 45, 46, 46, 46])) (consA (cE (.str [45, 35, 43, 45, 43, 46])) (consA (cE (.str [45, 35, 35, 35, 45, 46])) (consA (cE (.str [43, 45, 45, 45, 43, 46])) nilA))))))) (consA (cE (.str [43])) (consA (cE (.str [43, 45, 45, 45, 43, 46, 46, 46])) (consA (cE (.str [45, 10, 45, 10, 43])) nilA)))))) (consA (varE 4) nilA)))))))
def F_law : List MV → MH → Res MV := bodyF 5 1 b_law
theorem fb_law (M : Md fa fn ex K mg) : FnB R.prog w K mg base 15 "law" ["script"] 1 d_law F_law := by
  refine M.fb (N := ["script", "purse", "spin", "nook", "told"]) (ps := ["script"]) 71 (d := d_law) rfl (M.glo 67) rfl ⟨rfl, rfl, rfl, by decide +kernel, rfl, by decide +kernel, by decide +kernel⟩ rfl fun X J hp W tk => ?_
  have v_script : NmV _ "script" 0 := J.v (by decide +kernel)
  have g__law_purses : NmG _ "_law_purses" := J.g (by decide +kernel)
  have a_purse : NmA _ "purse" 1 := J.a (by decide +kernel)
  have b_range : NmB _ "range" (.type "range") := J.b (m_range M) bt_range (by decide +kernel)
  have a_spin : NmA _ "spin" 2 := J.a (by decide +kernel)
  have v_purse : NmV _ "purse" 1 := J.v (by decide +kernel)
  have g__law_room : NmG _ "_law_room" := J.g (by decide +kernel)
  have g__law_right : NmG _ "_law_right" := J.g (by decide +kernel)
  have g__law_nook : NmG _ "_law_nook" := J.g (by decide +kernel)
  have a_nook : NmA _ "nook" 3 := J.a (by decide +kernel)
  have v_nook : NmV _ "nook" 3 := J.v (by decide +kernel)
  have g_room_picture : NmG _ "room_picture" := J.g (by decide +kernel)
  have a_told : NmA _ "told" 4 := J.a (by decide +kernel)
  have v_told : NmV _ "told" 4 := J.v (by decide +kernel)
  have g__law_exact : NmG _ "_law_exact" := J.g (by decide +kernel)
  exact (ss_cons (ss_for hp J.calm (si_any (J.call tk (f__law_purses M) (by decide) g__law_purses (sa_cons v_script.var (sa_cons se_int sa_nil)))) a_purse.tg (ss_one (ss_for hp J.calm (si_rng1 b_range (sa_cons se_int sa_nil)) a_spin.tg (ss_one (ss_if (st_not (st_val (J.call tk (f__law_right M) (by decide) g__law_right (sa_cons v_purse.var (sa_cons (J.call tk (f__law_room M) (by decide) g__law_room (sa_cons v_purse.var (sa_cons se_int sa_nil))) sa_nil))))) (ss_one (ss_ret se_bl)) ss_nil))))) (ss_cons (a_nook.set (J.call0 tk (f__law_nook M) (by decide) g__law_nook)) (ss_cons (a_told.set (ofO (so_lst (sa_cons (ofO (so_split (toP (J.call tk (f_room_picture M) (by decide) g_room_picture (sa_cons v_nook.var (sa_cons se_int (sa_cons se_int sa_nil))))) (toP (se_str (by decide +kernel))))) (sa_cons (J.call tk (f_room_picture M) (by decide) g_room_picture (sa_cons v_nook.var (sa_cons se_int (sa_cons se_int sa_nil)))) (sa_cons (J.call tk (f_room_picture M) (by decide) g_room_picture (sa_cons v_nook.var (sa_cons se_int (sa_cons se_int sa_nil)))) (sa_cons (J.call tk (f_room_picture M) (by decide) g_room_picture (sa_cons (se_bin op_addM vp_add (toP (se_slV v_nook.peek (spo_some (toP se_int)) spo_none)) (toP (se_slV v_nook.peek spo_none (spo_some (toP se_int))))) (sa_cons se_int (sa_cons se_int sa_nil)))) sa_nil))))))) (ss_one (ss_ret (J.call tk (f__law_exact M) (by decide) g__law_exact (sa_cons (ofO (so_lst (sa_cons (ofO (so_lst (sa_cons (se_str (by decide +kernel)) (sa_cons (se_str (by decide +kernel)) (sa_cons (se_str (by decide +kernel)) (sa_cons (se_str (by decide +kernel)) (sa_cons (se_str (by decide +kernel)) sa_nil))))))) (sa_cons (se_str (by decide +kernel)) (sa_cons (se_str (by decide +kernel)) (sa_cons (se_str (by decide +kernel)) sa_nil)))))) (sa_cons v_told.var sa_nil))))))))
theorem f_law (M : Md fa fn ex K mg) : FnS R.prog w K mg base 15 "law" 1 [] F_law := (fb_law M).s (fun fd F => Md.bindN F fun _ _ _ _ _ _ us hl => match us, hl with | [_], _ => rfl)
end
end K84
end P_G84a
section P_P1
set_option Elab.async false
set_option linter.all false
set_option maxRecDepth 100000
set_option maxHeartbeats 4000000
set_option exponentiation.threshold 10000
/-! P1: how mirror functions are evaluated -/
namespace Mi
open PySem PySem.Spec PyProof.Rows L2

section
variable {α β : Type}
@[simp] theorem bindR_ok (a : α) (h : MH) (k : α → MH → Res β) : bindR (.ok a h) k = k a h := (rfl)
@[simp] theorem bindR_no (k : α → MH → Res β) : bindR (.no : Res α) k = .no := (rfl)
@[simp] theorem bindR_ex (c : Str) (v : MV) (h : MH) (k : α → MH → Res β) : bindR (.ex c v h : Res α) k = .ex c v h := (rfl)
@[simp] theorem optR_some (a : α) (h : MH) : optR (some a) h = .ok a h := (rfl)
@[simp] theorem optR_none (h : MH) : optR (none : Option α) h = .no := (rfl)
@[simp] theorem bindE_at (f : Sl → MH → Res α) (k : α → Sl → MH → Res β) (σ : Sl) (h : MH) : bindE f k σ h = bindR (f σ h) fun m h' => k m σ h' := (rfl)
/-- behind an expression of a statement -/
def bindFl (r : Res α) (σ : Sl) (k : α → MH → Fl) : Fl := match r with
  | .ok m h => k m h
  | .ex c v h => .ex c v σ h
  | .no => .no
@[simp] theorem bindFl_ok (m : α) (h : MH) (σ : Sl) (k : α → MH → Fl) : bindFl (.ok m h) σ k = k m h := (rfl)
@[simp] theorem bindFl_ex (c : Str) (v : MV) (h : MH) (σ : Sl) (k : α → MH → Fl) : bindFl (.ex c v h : Res α) σ k = .ex c v σ h := (rfl)
@[simp] theorem bindFl_no (σ : Sl) (k : α → MH → Fl) : bindFl (.no : Res α) σ k = .no := (rfl)
theorem bindS_at (f : Sl → MH → Res α) (k : α → Sl → MH → Fl) (σ : Sl) (h : MH) : bindS f k σ h = bindFl (f σ h) σ fun m h' => k m σ h' := by
  unfold bindS bindFl
  cases f σ h <;> rfl
/-- behind a statement -/
def seqFl (r : Fl) (k : Sl → MH → Fl) : Fl := match r with
  | .nx σ h => k σ h
  | r => r
@[simp] theorem seqFl_nx (σ : Sl) (h : MH) (k : Sl → MH → Fl) : seqFl (.nx σ h) k = k σ h := (rfl)
@[simp] theorem seqFl_rt (m : MV) (h : MH) (k : Sl → MH → Fl) : seqFl (.rt m h) k = .rt m h := (rfl)
@[simp] theorem seqFl_no (k : Sl → MH → Fl) : seqFl .no k = .no := (rfl)
/-- behind a def's body -/
def endFl (r : Fl) : Res MV := match r with
  | .rt m h => .ok m h
  | .nx _ h => .ok .non h
  | .ex c m _ h => .ex c m h
  | _ => .no
@[simp] theorem endFl_rt (m : MV) (h : MH) : endFl (.rt m h) = .ok m h := (rfl)
@[simp] theorem endFl_nx (σ : Sl) (h : MH) : endFl (.nx σ h) = .ok .non h := (rfl)
@[simp] theorem endFl_ex (c : Str) (m : MV) (σ : Sl) (h : MH) : endFl (.ex c m σ h) = .ex c m h := (rfl)
@[simp] theorem endFl_no : endFl .no = .no := (rfl)
end
section
variable (σ : Sl) (h : MH) (i j : Nat) (m : MV) (f fa fb : EM) (fs : OM) (op : MH → MV → MV → Option MV) (op1 : MH → MV → Option MV) (a b : SM)
@[simp] theorem varE_at : varE i σ h = match σ[i]? with
  | some (.val m) => .ok m h
  | _ => .no := (rfl)
@[simp] theorem peekE_at : peekE i σ h = match σ[i]? with
  | some (.val m) => .ok m h
  | some (.own xs) => .ok (.lst xs) h
  | _ => .no := (rfl)
@[simp] theorem cE_at : cE m σ h = .ok m h := (rfl)
@[simp] theorem bin2_at : bin2 op fa fb σ h = bindR (fa σ h) fun x h1 => bindR (fb σ h1) fun y h2 => optR (op h2 x y) h2 := (rfl)
@[simp] theorem un1_at : un1 op1 fa σ h = bindR (fa σ h) fun x h1 => optR (op1 h1 x) h1 := (rfl)
@[simp] theorem nilA_at : nilA σ h = .ok [] h := (rfl)
@[simp] theorem consA_at : consA f fs σ h = bindR (f σ h) fun x h1 => bindR (fs σ h1) fun xs h2 => .ok (x :: xs) h2 := (rfl)
@[simp] theorem tupE_at : tupE fs σ h = bindR (fs σ h) fun xs h1 => if xs.length ≤ zl then .ok (.tup xs) h1 else .no := (rfl)
@[simp] theorem lstO_at : lstO fs σ h = bindR (fs σ h) fun xs h1 => if xs.length ≤ zl then .ok xs h1 else .no := (rfl)
@[simp] theorem wrapL_at : wrapL fs σ h = bindR (fs σ h) fun xs h' => .ok (.lst xs) h' := (rfl)
@[simp] theorem callB_at (o : MH → List MV → Option MV) : callB o fs σ h = bindR (fs σ h) fun xs h1 => optR (o h1 xs) h1 := (rfl)
@[simp] theorem callBO_at (o : MH → List MV → Option (List MV)) : callBO o fs σ h = bindR (fs σ h) fun xs h1 => optR (o h1 xs) h1 := (rfl)
@[simp] theorem callE_at (F : List MV → MH → Res MV) (n : Nat) (dms : List MV) : callE (callN n F) dms fs σ h = bindR (fs σ h) fun ms h1 => if (ms ++ dms).length = n then F (ms ++ dms) h1 else .no := (rfl)
@[simp] theorem retS_at : retS f σ h = bindFl (f σ h) σ fun m h' => .rt m h' := (bindS_at ..)
@[simp] theorem setS_at : setS i f σ h = bindFl (f σ h) σ fun m h' => .nx (σ.set i (.val m)) h' := (bindS_at ..)
@[simp] theorem ownS_at : ownS i fs σ h = bindFl (fs σ h) σ fun m h' => .nx (σ.set i (.own m)) h' := (bindS_at ..)
@[simp] theorem asgS_at (t : Tgt) : asgS t f σ h = bindFl (f σ h) σ fun m h' => match t m σ with
  | some σ' => .nx σ' h'
  | none => .no := (bindS_at ..)
@[simp] theorem exprS_at : exprS f σ h = bindFl (f σ h) σ fun m h' => .nx σ h' := (bindS_at ..)
@[simp] theorem seqS_at : seqS a b σ h = seqFl (a σ h) fun σ' h' => b σ' h' := by
  unfold seqS seqFl
  cases a σ h <;> rfl
@[simp] theorem nextS_at : nextS σ h = .nx σ h := (rfl)
@[simp] theorem retN_at : retN σ h = .rt .non h := (rfl)
@[simp] theorem ifS_at (c : TM) : ifS c a b σ h = bindFl (c σ h) σ fun x h' => if x = true then a σ h' else b σ h' := by
  unfold ifS
  rw [bindS_at]
  congr 1
  funext x h'
  cases x <;> rfl
@[simp] theorem tstE_at : tstE f σ h = bindR (f σ h) fun x h' => match x with
  | .bl b => .ok b h'
  | _ => .no := (rfl)
@[simp] theorem andT_at (c d : TM) : andT c d σ h = bindR (c σ h) fun x h' => if x = true then d σ h' else .ok false h' := by
  show bindR (c σ h) _ = _
  congr 1
  funext x h'
  cases x <;> rfl
@[simp] theorem orT_at (c d : TM) : orT c d σ h = bindR (c σ h) fun x h' => if x = true then .ok true h' else d σ h' := by
  show bindR (c σ h) _ = _
  congr 1
  funext x h'
  cases x <;> rfl
@[simp] theorem notT_at (c : TM) : notT c σ h = bindR (c σ h) fun x h' => .ok (!x) h' := (rfl)
@[simp] theorem andE_at : andE fa fb σ h = bindR (fa σ h) fun x h' => match x with
  | .bl b => if b = true then fb σ h' else .ok (.bl false) h'
  | _ => .no := by
    show bindR (fa σ h) _ = _
    congr 1
    funext x h'
    cases x with
    | bl b => cases b <;> rfl
    | _ => rfl
@[simp] theorem orE_at : orE fa fb σ h = bindR (fa σ h) fun x h' => match x with
  | .bl b => if b = true then .ok (.bl true) h' else fb σ h'
  | _ => .no := by
    show bindR (fa σ h) _ = _
    congr 1
    funext x h'
    cases x with
    | bl b => cases b <;> rfl
    | _ => rfl
@[simp] theorem ifE_at (c : TM) : ifE c fa fb σ h = bindR (c σ h) fun x h' => if x = true then fa σ h' else fb σ h' := by
  show bindR (c σ h) _ = _
  congr 1
  funext x h'
  cases x <;> rfl
theorem bodyF_at (N n : Nat) (b : SM) (ms : List MV) : bodyF N n b ms h = endFl (b (ms.map .val ++ List.replicate (N - n) .un) h) := by
  unfold bodyF endFl
  cases b (ms.map .val ++ List.replicate (N - n) .un) h <;> rfl
@[simp] theorem slV_at (fl fh : PM) : slV f fl fh σ h = bindR (f σ h) fun x h1 => bindR (fl σ h1) fun lo h2 => bindR (fh σ h2) fun hi h3 => optR (slM lo hi h3 x) h3 := (rfl)
@[simp] theorem slO_at (fl fh : PM) : slO f fl fh σ h = bindR (f σ h) fun x h1 => bindR (fl σ h1) fun lo h2 => bindR (fh σ h2) fun hi h3 => optR ((seqM h3 x).map fun xs => cutL xs lo hi) h3 := (rfl)
@[simp] theorem noP_at : noP σ h = .ok none h := (rfl)
@[simp] theorem prtP_at : prtP f σ h = bindR (f σ h) fun x h' => match x with
  | .int i => .ok (some i) h'
  | _ => .no := (rfl)
@[simp] theorem itAny_at : itAny f σ h = bindR (f σ h) fun m h' => itemsM m h' := (rfl)
@[simp] theorem itB_at (o : List MV → Option (List MV)) : itB o fs σ h = bindR (fs σ h) fun xs h' => optR (o xs) h' := (rfl)
end

/-! ### sizes -/
/-- a number of at most n bits -/
def Sz (n : Nat) (i : Int) : Prop := i.natAbs < 2 ^ n
theorem Sz.up {m n : Nat} {i : Int} (h : Sz m i) (l : m ≤ n) : Sz n i := Nat.lt_of_lt_of_le h (Nat.pow_le_pow_right (by decide) l)
theorem Sz.mul {m n : Nat} {i j : Int} (h : Sz m i) (k : Sz n j) : Sz (m + n) (i * j) := by
  unfold Sz at *
  rw [Int.natAbs_mul, Nat.pow_add]
  exact Nat.mul_lt_mul'' h k
theorem Sz.add {m n : Nat} {i j : Int} (h : Sz m i) (k : Sz n j) : Sz (max m n + 1) (i + j) := by
  have h := h.up (Nat.le_max_left m n)
  have k := k.up (Nat.le_max_right m n)
  unfold Sz at *
  rw [Nat.pow_succ]
  omega
theorem Sz.sub {m n : Nat} {i j : Int} (h : Sz m i) (k : Sz n j) : Sz (max m n + 1) (i - j) := by
  have h := h.up (Nat.le_max_left m n)
  have k := k.up (Nat.le_max_right m n)
  unfold Sz at *
  rw [Nat.pow_succ]
  omega
theorem Sz.neg {m : Nat} {i : Int} (h : Sz m i) : Sz m (-i) := by
  unfold Sz at *
  rw [Int.natAbs_neg]
  exact h
theorem Sz.big {n : Nat} {i : Int} (h : Sz n i) (l : n ≤ 4000 := by decide) : i.natAbs < bigN := lt_big (h.up l)
theorem mul_M {m n : Nat} {i j : Int} {h : MH} (a : Sz m i) (b : Sz n j) (la : m ≤ 4000 := by decide) (lb : n ≤ 4000 := by decide) : mulM h (.int i) (.int j) = some (.int (i * j)) := by
  unfold mulM
  exact if_pos ⟨a.big la, b.big lb⟩
@[simp] theorem add_Mi (i j : Int) (h : MH) : addM h (.int i) (.int j) = some (.int (i + j)) := (rfl)
@[simp] theorem sub_Mi (i j : Int) (h : MH) : subM h (.int i) (.int j) = some (.int (i - j)) := (rfl)
@[simp] theorem sub_Mb (a b : Bool) (h : MH) : subM h (.bl a) (.bl b) = some (.int ((if a = true then 1 else 0) - (if b = true then 1 else 0))) := (rfl)
@[simp] theorem lt_Mi (i j : Int) (h : MH) : ltM h (.int i) (.int j) = some (.bl (decide (i < j))) := (rfl)
@[simp] theorem gt_Mi (i j : Int) (h : MH) : gtM h (.int i) (.int j) = some (.bl (decide (j < i))) := (rfl)
@[simp] theorem le_Mi (i j : Int) (h : MH) : leM h (.int i) (.int j) = some (.bl (decide (i ≤ j))) := (rfl)
@[simp] theorem ge_Mi (i j : Int) (h : MH) : geM h (.int i) (.int j) = some (.bl (decide (j ≤ i))) := (rfl)
@[simp] theorem eq_Mi (i j : Int) (h : MH) : eqM h (.int i) (.int j) = some (.bl (i == j)) := by
  unfold eqM
  exact if_pos ⟨rfl, rfl⟩
@[simp] theorem ne_Mi (i j : Int) (h : MH) : neM h (.int i) (.int j) = some (.bl (!(i == j))) := by
  unfold neM
  exact if_pos ⟨rfl, rfl⟩
@[simp] theorem eq_Mb (i j : Bool) (h : MH) : eqM h (.bl i) (.bl j) = some (.bl (i == j)) := by
  unfold eqM
  exact if_pos ⟨rfl, rfl⟩
@[simp] theorem ne_Mb (i j : Bool) (h : MH) : neM h (.bl i) (.bl j) = some (.bl (!(i == j))) := by
  unfold neM
  exact if_pos ⟨rfl, rfl⟩
@[simp] theorem mod_Mi (i j : Int) (h : MH) (k : j ≠ 0) : modM h (.int i) (.int j) = some (.int (i.fmod j)) := by
  unfold modM intOp
  exact if_pos k
theorem div_Mi {n : Nat} {i j : Int} {h : MH} (k : j ≠ 0) (s : Sz n j) (l : n ≤ 9000 := by decide) : divM h (.int i) (.int j) = some (.int (i.fdiv j)) := by
  unfold divM intOp
  exact if_pos ⟨k, s.up l⟩

section
variable (σ : Sl) (h : MH) (i j l : Nat)
@[simp] theorem run_v (f : EM) : PT2.run (.v f) i σ h = bindR (f σ h) fun m h => .ok (.val m) h := (rfl)
@[simp] theorem run_o (f : OM) : PT2.run (.o f) i σ h = bindR (f σ h) fun m h => .ok (.own m) h := (rfl)
@[simp] theorem par2S_at (a b : PT2) : par2S i j a b σ h = bindFl (bindR (a.run i σ h) fun x h1 => bindR (b.run j σ h1) fun y h2 => .ok (x, y) h2) σ fun q h' => .nx ((σ.set i q.1).set j q.2) h' := (bindS_at ..)
@[simp] theorem par3S_at (a b c : PT2) : par3S i j l a b c σ h = bindFl (bindR (a.run i σ h) fun x h1 => bindR (b.run j σ h1) fun y h2 => bindR (c.run l σ h2) fun z h3 => .ok (x, y, z) h3) σ fun q h' => .nx (((σ.set i q.1).set j q.2.1).set l q.2.2) h' := (bindS_at ..)
@[simp] theorem mutS_at (op : List MV → List MV → Option (List MV)) (fs : OM) (ys : List MV) (hy : σ[i]? = some (.own ys)) : mutS i op fs σ h = bindFl (fs σ h) σ fun xs h' => match op ys xs with
    | some zs => .nx (σ.set i (.own zs)) h'
    | none => .no := by
  unfold mutS
  rw [hy]
  show bindS fs _ σ h = _
  rw [bindS_at]
  congr 1
  funext xs h'
  rw [hy]
  first
    | done
    | (dsimp only; done)
    | (dsimp only; cases op ys xs <;> rfl)
    | (cases op ys xs <;> rfl)
@[simp] theorem fzS_at (b : SM) (xs : List MV) (hy : σ[i]? = some (.own xs)) : fzS i b σ h = b (σ.set i (.val (.lst xs))) h := by
  unfold fzS
  rw [hy]
@[simp] theorem forS_at (t : Tgt) (f : OM) (b : SM) : forS t f b σ h = bindFl (f σ h) σ fun ms h' => forL t b ms σ h' := by
  unfold forS
  rw [bindS_at]
@[simp] theorem forL_nil (t : Tgt) (b : SM) : forL t b [] σ h = .nx σ h := (rfl)
/-- behind a turn of a loop -/
def turnFl (r : Fl) (k : Sl → MH → Fl) : Fl := match r with
  | .nx σ h => k σ h
  | .ct σ h => k σ h
  | .bk σ h => .nx σ h
  | r => r
@[simp] theorem turnFl_nx (k : Sl → MH → Fl) : turnFl (.nx σ h) k = k σ h := (rfl)
@[simp] theorem turnFl_ct (k : Sl → MH → Fl) : turnFl (.ct σ h) k = k σ h := (rfl)
@[simp] theorem turnFl_bk (k : Sl → MH → Fl) : turnFl (.bk σ h) k = .nx σ h := (rfl)
@[simp] theorem turnFl_rt (m : MV) (k : Sl → MH → Fl) : turnFl (.rt m h) k = .rt m h := (rfl)
theorem forL_cons (t : Tgt) (b : SM) (m : MV) (r : List MV) (σ1 : Sl) (ht : t m σ = some σ1) : forL t b (m :: r) σ h = turnFl (b σ1 h) fun σ h => forL t b r σ h := by
  show (match t m σ with
    | none => Fl.no
    | some σ1 => _) = _
  rw [ht]
  unfold turnFl
  first
    | done
    | (dsimp only; done)
    | (dsimp only; generalize b σ1 h = r0; cases r0 <;> rfl)
    | (generalize b σ1 h = r0; cases r0 <;> rfl)
@[simp] theorem nameT_at (m : MV) : nameT i m σ = some (σ.set i (.val m)) := (rfl)
@[simp] theorem tupT_at (n : Nat) (u : List MV → Sl → Option Sl) (ms : List MV) : tupT n u (.tup ms) σ = if ms.length = n then u ms σ else none := (rfl)
@[simp] theorem nilT_at : nilT [] σ = some σ := (rfl)
@[simp] theorem consT_at (t : Tgt) (u : List MV → Sl → Option Sl) (m : MV) (r : List MV) : consT t u (m :: r) σ = (t m σ).bind (u r) := (rfl)
@[simp] theorem whileL_at (c : TM) (b : SM) (n : Nat) : whileL c b (n + 1) σ h = bindFl (c σ h) σ fun x h1 => if x = true then turnFl (b σ h1) fun σ h => whileL c b n σ h else .nx σ h1 := by
  rw [whileL]
  unfold bindFl turnFl
  cases c σ h with
  | ok x h1 => cases x with
    | true =>
      dsimp only
      generalize b σ h1 = r0
      cases r0 <;> rfl
    | false => rfl
  | ex c v h1 => rfl
  | no => rfl
end

@[simp] theorem not_Mb (b : Bool) (h : MH) : Mi.notM h (.bl b) = some (.bl (!b)) := (rfl)
@[simp] theorem neg_Mi (i : Int) (h : MH) : negM h (.int i) = some (.int (-i)) := (rfl)
@[simp] theorem isN_M (m : MV) (h : MH) : isNM h m = some (.bl (isN m)) := (rfl)
@[simp] theorem notN_M (m : MV) (h : MH) : notNM h m = some (.bl (!isN m)) := (rfl)
@[simp] theorem len_tupM (xs : List MV) (h : MH) : lenM h [.tup xs] = some (.int xs.length) := (rfl)
@[simp] theorem len_lstM (xs : List MV) (h : MH) : lenM h [.lst xs] = some (.int xs.length) := (rfl)
@[simp] theorem int_Mi (i : Int) (h : MH) : intM h [.int i] = some (.int i) := (rfl)
@[simp] theorem int_Mb (b : Bool) (h : MH) : intM h [.bl b] = some (.int (if b then 1 else 0)) := (rfl)
@[simp] theorem isi_M (b : Ty) (h : MH) (x : MV) : isiM b h x = (tyM h x).map fun a => .bl (isB a b) := (rfl)
@[simp] theorem isiT_M (bs : List Ty) (h : MH) (x : MV) : isiTM bs h x = (tyM h x).map fun a => .bl (bs.any (isB a)) := (rfl)
@[simp] theorem ty_non (h : MH) : tyM h .non = some .non := (rfl)
@[simp] theorem ty_bl (b : Bool) (h : MH) : tyM h (.bl b) = some .bool := (rfl)
@[simp] theorem ty_int (i : Int) (h : MH) : tyM h (.int i) = some .int := (rfl)
@[simp] theorem ty_str (s : List Nat) (h : MH) : tyM h (.str s) = some .str := (rfl)
@[simp] theorem ty_tup (xs : List MV) (h : MH) : tyM h (.tup xs) = some .tuple := (rfl)
@[simp] theorem ty_lst (xs : List MV) (h : MH) : tyM h (.lst xs) = some .list := (rfl)
@[simp] theorem gcd_Mi (i j : Int) (h : MH) : gcdM h [.int i, .int j] = some (.int (Nat.gcd i.natAbs j.natAbs)) := (rfl)
theorem zl1 : 1 ≤ zl := by decide
theorem zl2 : 2 ≤ zl := by decide
theorem zl3 : 3 ≤ zl := by decide
@[simp] theorem zlt0 : (0 ≤ zl) = True := eq_true (by decide)
@[simp] theorem zlt1 : (1 ≤ zl) = True := eq_true (by decide)
@[simp] theorem zlt2 : (2 ≤ zl) = True := eq_true (by decide)
@[simp] theorem zlt3 : (3 ≤ zl) = True := eq_true (by decide)
@[simp] theorem zlt4 : (4 ≤ zl) = True := eq_true (by decide)
@[simp] theorem zlt5 : (5 ≤ zl) = True := eq_true (by decide)
@[simp] theorem zlt6 : (6 ≤ zl) = True := eq_true (by decide)
@[simp] theorem zlt7 : (7 ≤ zl) = True := eq_true (by decide)
@[simp] theorem zlt8 : (8 ≤ zl) = True := eq_true (by decide)
@[simp] theorem zlt9 : (9 ≤ zl) = True := eq_true (by decide)
@[simp] theorem zlt10 : (10 ≤ zl) = True := eq_true (by decide)
@[simp] theorem zlt11 : (11 ≤ zl) = True := eq_true (by decide)
@[simp] theorem zlt12 : (12 ≤ zl) = True := eq_true (by decide)
@[simp] theorem zlt13 : (13 ≤ zl) = True := eq_true (by decide)
@[simp] theorem zlt14 : (14 ≤ zl) = True := eq_true (by decide)
@[simp] theorem zlt15 : (15 ≤ zl) = True := eq_true (by decide)
@[simp] theorem zlt16 : (16 ≤ zl) = True := eq_true (by decide)
@[simp] theorem zlt17 : (17 ≤ zl) = True := eq_true (by decide)
@[simp] theorem zlt18 : (18 ≤ zl) = True := eq_true (by decide)
@[simp] theorem zlt19 : (19 ≤ zl) = True := eq_true (by decide)
@[simp] theorem zlt20 : (20 ≤ zl) = True := eq_true (by decide)

/-! ### places of lists -/
@[simp] theorem ix_tupM (xs : List MV) (i : Int) (h : MH) : ixDM h (.tup xs) (.int i) = atI xs i := (rfl)
@[simp] theorem ix_lstM (xs : List MV) (i : Int) (h : MH) : ixDM h (.lst xs) (.int i) = atI xs i := (rfl)
theorem atI_n {α : Type} (xs : List α) (i : Nat) : atI xs (i : Int) = xs[i]? := by
  unfold atI ixN
  rw [if_pos (by omega)]
  by_cases c : i < xs.length
  · rw [if_pos (by omega)]
    simp
  · rw [if_neg (by omega)]
    rw [List.getElem?_eq_none (by omega)]
    rfl
theorem atI_neg {α : Type} (xs : List α) (i : Nat) (h0 : 0 < i) (h1 : i ≤ xs.length) : atI xs (-(i : Int)) = xs[xs.length - i]? := by
  unfold atI ixN
  rw [if_neg (by omega), if_pos (by omega)]
  have e : (-(i : Int) + (xs.length : Int)).toNat = xs.length - i := by omega
  show (some _).bind _ = _
  simp only [Option.bind_some]
  rw [e]
@[simp] theorem atI_0 {α : Type} (xs : List α) : atI xs 0 = xs[0]? := atI_n xs 0
@[simp] theorem atI_1 {α : Type} (xs : List α) : atI xs 1 = xs[1]? := atI_n xs 1
@[simp] theorem atI_2 {α : Type} (xs : List α) : atI xs 2 = xs[2]? := atI_n xs 2
@[simp] theorem atI_3 {α : Type} (xs : List α) : atI xs 3 = xs[3]? := atI_n xs 3

/-! ### rational numbers as pairs -/
def fr (q : Rat) : MV := .tup [.int q.num, .int q.den]
/-- numerator and denominator of at most n bits -/
def Bq (n : Nat) (q : Rat) : Prop := Sz n q.num ∧ Sz n (q.den : Int)
theorem Bq.up {m n : Nat} {q : Rat} (h : Bq m q) (l : m ≤ n) : Bq n q := ⟨h.1.up l, h.2.up l⟩
theorem Sz.le {n : Nat} {i j : Int} (h : Sz n i) (l : j.natAbs ≤ i.natAbs) : Sz n j := Nat.lt_of_le_of_lt l h
theorem Bq.divInt {n : Nat} {a b : Int} (hb : 0 < b) (h1 : Sz n a) (h2 : Sz n b) : Bq n (Rat.divInt a b) := by
  constructor
  · refine h1.le ?_
    rw [Rat.num_divInt, Int.sign_eq_one_of_pos hb, Int.one_mul]
    exact Int.natAbs_ediv_le_natAbs a _
  · refine h2.le ?_
    rw [Rat.den_divInt, if_neg (by omega)]
    simp only [Int.natAbs_natCast]
    exact Nat.div_le_self _ _
theorem den_pos (q : Rat) : 0 < (q.den : Int) := by
  have := q.den_pos
  omega
theorem Bq.add {n : Nat} {p q : Rat} (a : Bq n p) (b : Bq n q) : Bq (n + n + 1) (p + q) := by
  rw [Rat.add_def', ← Rat.divInt_ofNat]
  refine Bq.divInt (by have := Nat.mul_pos p.den_pos q.den_pos; omega) ?_ ?_
  · exact ((a.1.mul b.2).add (b.1.mul a.2)).up (by omega)
  · rw [Int.natCast_mul]
    exact (a.2.mul b.2).up (by omega)
theorem Bq.sub {n : Nat} {p q : Rat} (a : Bq n p) (b : Bq n q) : Bq (n + n + 1) (p - q) := by
  rw [Rat.sub_def', ← Rat.divInt_ofNat]
  refine Bq.divInt (by have := Nat.mul_pos p.den_pos q.den_pos; omega) ?_ ?_
  · exact ((a.1.mul b.2).sub (b.1.mul a.2)).up (by omega)
  · rw [Int.natCast_mul]
    exact (a.2.mul b.2).up (by omega)
theorem Bq.mul {n : Nat} {p q : Rat} (a : Bq n p) (b : Bq n q) : Bq (n + n) (p * q) := by
  rw [Rat.mul_def', ← Rat.divInt_ofNat]
  refine Bq.divInt (by have := Nat.mul_pos p.den_pos q.den_pos; omega) ?_ ?_
  · exact a.1.mul b.1
  · rw [Int.natCast_mul]
    exact a.2.mul b.2
end Mi
end P_P1
section P_P2
set_option Elab.async false
set_option linter.all false
set_option maxRecDepth 100000
set_option maxHeartbeats 4000000
set_option exponentiation.threshold 10000
/-! P2: lists, loops, comprehensions -/
namespace Mi
open PySem PySem.Spec PyProof.Rows L2

/-! ### parts of lists -/
theorem cutL_from {α : Type} (xs : List α) (i : Nat) : cutL xs (some (i : Int)) none = xs.drop i := by
  unfold cutL
  rw [HT.sIx_nat, HT.sIx_none]
  by_cases c : i ≤ xs.length
  · rw [Nat.min_eq_left c]
    rw [List.take_of_length_le (by rw [List.length_drop]; exact Nat.le_refl _)]
  · rw [Nat.min_eq_right (by omega), List.drop_eq_nil_of_le (Nat.le_refl _), List.drop_eq_nil_of_le (by omega)]
    simp
theorem cutL_to {α : Type} (xs : List α) (i : Nat) : cutL xs none (some (i : Int)) = xs.take i := by
  unfold cutL
  rw [HT.sIx_nat, HT.sIx_none, List.drop_zero, Nat.sub_zero]
  by_cases c : i ≤ xs.length
  · rw [Nat.min_eq_left c]
  · rw [Nat.min_eq_right (by omega), List.take_length, List.take_of_length_le (by omega)]
theorem cutL_mid {α : Type} (xs : List α) (i j : Nat) : cutL xs (some (i : Int)) (some (j : Int)) = (xs.take j).drop i := by
  unfold cutL
  rw [HT.sIx_nat, HT.sIx_nat, List.drop_take]
  by_cases c : i ≤ xs.length
  · rw [Nat.min_eq_left c]
    by_cases d : j ≤ xs.length
    · rw [Nat.min_eq_left d]
    · rw [Nat.min_eq_right (by omega)]
      rw [List.take_of_length_le (by rw [List.length_drop]; exact Nat.le_refl _), List.take_of_length_le (by rw [List.length_drop]; omega)]
  · rw [Nat.min_eq_right (by omega : xs.length ≤ i), List.drop_eq_nil_of_le (Nat.le_refl _), List.drop_eq_nil_of_le (by omega)]
    simp
@[simp] theorem cutL_1 {α : Type} (xs : List α) : cutL xs (some 1) none = xs.tail := by rw [← List.drop_one]; exact cutL_from xs 1
@[simp] theorem cutL_to1 {α : Type} (xs : List α) : cutL xs none (some 1) = xs.take 1 := cutL_to xs 1
@[simp] theorem seqM_lst (h : MH) (xs : List MV) : seqM h (.lst xs) = some xs := (rfl)
@[simp] theorem seqM_scr (h : MH) (xs : List MV) : seqM h (.scr xs) = some xs := (rfl)
@[simp] theorem slM_lst (lo hi : Option Int) (h : MH) (xs : List MV) : slM lo hi h (.lst xs) = some (.lst (cutL xs lo hi)) := (rfl)
theorem slM_str (lo hi : Option Int) (h : MH) (s : List Nat) (l : s.length ≤ zl) : slM lo hi h (.str s) = some (.str (cutL s lo hi)) := if_pos l
theorem add_Ml (xs ys : List MV) (h : MH) (l : xs.length + ys.length ≤ zl) : addM h (.lst xs) (.lst ys) = some (.lst (xs ++ ys)) := if_pos l
@[simp] theorem lzipO_at (fs : OM) (σ : Sl) (h : MH) : lzipO fs σ h = bindR (fs σ h) fun xs h => match xs with
  | [x, y] => (match seqM h x, seqM h y with
    | some xs, some ys => if (zipL xs ys).length ≤ zl then .ok (zipL xs ys) h else .no
    | _, _ => .no)
  | _ => .no := (rfl)
@[simp] theorem items_lst (xs : List MV) (h : MH) : itemsM (.lst xs) h = .ok xs h := (rfl)
@[simp] theorem items_tup (xs : List MV) (h : MH) : itemsM (.tup xs) h = .ok xs h := (rfl)

/-! ### comprehensions -/
theorem compL_pure {t : Tgt} {c : TM} {f : EM} {σ : Sl} {h : MH} {p : MV → Bool} {g : MV → MV} : ∀ {ms : List MV}, (∀ m ∈ ms, ∃ σ1, t m σ = some σ1 ∧ c σ1 h = .ok (p m) h ∧ (p m = true → f σ1 h = .ok (g m) h)) → compL t c f σ ms h = .ok ((ms.filter p).map g) h
  | [], _ => rfl
  | m :: ms, H => by
    obtain ⟨σ1, h1, h2, h3⟩ := H m List.mem_cons_self
    have ih := compL_pure (t := t) (c := c) (f := f) (σ := σ) (h := h) (p := p) (g := g) (ms := ms) fun x hx => H x (List.mem_cons_of_mem _ hx)
    unfold compL
    rw [h1]
    dsimp only
    rw [h2]
    cases q : p m with
    | true =>
      dsimp only
      rw [h3 q]
      dsimp only
      rw [ih]
      simp [q]
    | false =>
      dsimp only
      rw [ih]
      simp [q]
theorem compO_pure {vs : List Nat} {fi : OM} {t : Tgt} {c : TM} {f : EM} {σ : Sl} {h : MH} {ms : List MV} (p : MV → Bool) (g : MV → MV) (hf : fi σ h = .ok ms h) (hl : ms.length ≤ zl)
    (H : ∀ m ∈ ms, ∃ σ1, t m (wipeM σ vs) = some σ1 ∧ c σ1 h = .ok (p m) h ∧ (p m = true → f σ1 h = .ok (g m) h)) : compO vs fi t c f σ h = .ok ((ms.filter p).map g) h := by
  unfold compO
  rw [hf]
  show (if ms.length ≤ zl then compL t c f (wipeM σ vs) ms h else .no) = _
  rw [if_pos hl, compL_pure H]
/-- without a test -/
theorem compO_map {vs : List Nat} {fi : OM} {t : Tgt} {f : EM} {σ : Sl} {h : MH} {ms : List MV} (g : MV → MV) (hf : fi σ h = .ok ms h) (hl : ms.length ≤ zl)
    (H : ∀ m ∈ ms, ∃ σ1, t m (wipeM σ vs) = some σ1 ∧ f σ1 h = .ok (g m) h) : compO vs fi t yesT f σ h = .ok (ms.map g) h := by
  have z := compO_pure (vs := vs) (fi := fi) (t := t) (c := yesT) (f := f) (σ := σ) (h := h) (ms := ms) (fun _ => true) g hf hl fun m hm => by
    obtain ⟨σ1, h1, h2⟩ := H m hm
    exact ⟨σ1, h1, rfl, fun _ => h2⟩
  rw [z, List.filter_eq_self.mpr fun _ _ => rfl]
/-- over a list of data -/
theorem compO_data {α : Type} {vs : List Nat} {fi : OM} {t : Tgt} {f : EM} {σ : Sl} {h : MH} {xs : List α} (em : α → MV) (g : α → MV) (hf : fi σ h = .ok (xs.map em) h) (hl : xs.length ≤ zl)
    (H : ∀ x ∈ xs, ∃ σ1, t (em x) (wipeM σ vs) = some σ1 ∧ f σ1 h = .ok (g x) h) : compO vs fi t yesT f σ h = .ok (xs.map g) h := by
  have key : ∀ ys : List α, (∀ x ∈ ys, ∃ σ1, t (em x) (wipeM σ vs) = some σ1 ∧ f σ1 h = .ok (g x) h) → compL t yesT f (wipeM σ vs) (ys.map em) h = .ok (ys.map g) h := by
    intro ys
    induction ys with
    | nil => intro _; rfl
    | cons y ys ih =>
      intro H
      obtain ⟨σ1, h1, h2⟩ := H y List.mem_cons_self
      rw [List.map_cons]
      unfold compL
      rw [h1]
      dsimp only [yesT]
      rw [h2]
      dsimp only
      rw [ih fun x hx => H x (List.mem_cons_of_mem _ hx)]
      rfl
  unfold compO
  rw [hf]
  show (if (xs.map em).length ≤ zl then compL t yesT f (wipeM σ vs) (xs.map em) h else .no) = _
  rw [if_pos (by rw [List.length_map]; exact hl), key xs H]
theorem compO_filter {α : Type} {vs : List Nat} {fi : OM} {t : Tgt} {c : TM} {f : EM} {σ : Sl} {h : MH} {xs : List α} (em : α → MV) (p : α → Bool) (g : α → MV) (hf : fi σ h = .ok (xs.map em) h) (hl : xs.length ≤ zl)
    (H : ∀ x ∈ xs, ∃ σ1, t (em x) (wipeM σ vs) = some σ1 ∧ c σ1 h = .ok (p x) h ∧ (p x = true → f σ1 h = .ok (g x) h)) : compO vs fi t c f σ h = .ok ((xs.filter p).map g) h := by
  have key : ∀ ys : List α, (∀ x ∈ ys, ∃ σ1, t (em x) (wipeM σ vs) = some σ1 ∧ c σ1 h = .ok (p x) h ∧ (p x = true → f σ1 h = .ok (g x) h)) → compL t c f (wipeM σ vs) (ys.map em) h = .ok ((ys.filter p).map g) h := by
    intro ys
    induction ys with
    | nil => intro _; rfl
    | cons y ys ih =>
      intro H
      obtain ⟨σ1, h1, h2, h3⟩ := H y List.mem_cons_self
      have ih := ih fun x hx => H x (List.mem_cons_of_mem _ hx)
      rw [List.map_cons]
      unfold compL
      rw [h1]
      dsimp only
      rw [h2]
      cases q : p y with
      | true =>
        dsimp only
        rw [h3 q]
        dsimp only
        rw [ih]
        simp [q]
      | false =>
        dsimp only
        rw [ih]
        simp [q]
  unfold compO
  rw [hf]
  show (if (xs.map em).length ≤ zl then compL t c f (wipeM σ vs) (xs.map em) h else .no) = _
  rw [if_pos (by rw [List.length_map]; exact hl), key xs H]

/-! ### for -/
/-- over a list of data, each turn going on: I by what has come, what is still to come -/
theorem forL_inv {α : Type} {t : Tgt} {b : SM} (em : α → MV) (I : List α → List α → Sl → MH → Prop)
    (step : ∀ pre x post σ h, I pre (x :: post) σ h → ∃ σ1, t (em x) σ = some σ1 ∧ ∃ σ2 h2, (b σ1 h = .nx σ2 h2 ∨ b σ1 h = .ct σ2 h2) ∧ I (pre ++ [x]) post σ2 h2) :
    ∀ (xs pre : List α) (σ : Sl) (h : MH), I pre xs σ h → ∃ σ' h', forL t b (xs.map em) σ h = .nx σ' h' ∧ I (pre ++ xs) [] σ' h'
  | [], pre, σ, h, i => ⟨σ, h, rfl, by rw [List.append_nil]; exact i⟩
  | x :: xs, pre, σ, h, i => by
    obtain ⟨σ1, h1, σ2, h2, e, i2⟩ := step pre x xs σ h i
    obtain ⟨σ', h', e', i'⟩ := forL_inv em I step xs (pre ++ [x]) σ2 h2 i2
    refine ⟨σ', h', ?_, by rw [List.append_assoc] at i'; exact i'⟩
    rw [List.map_cons, forL_cons (ht := h1)]
    rcases e with e | e
    · rw [e]; exact e'
    · rw [e]; exact e'
/-- .. with an answer on the way: R by the items -/
theorem forL_find {α : Type} {t : Tgt} {b : SM} {σ0 : Sl} (em : α → MV) (I : Sl → Prop) (ans : α → Option MV) (h : MH)
    (step : ∀ x σ, I σ → ∃ σ1, t (em x) σ = some σ1 ∧ match ans x with
      | none => ∃ σ2, b σ1 h = .nx σ2 h ∧ I σ2
      | some m => b σ1 h = .rt m h) :
    ∀ (xs : List α) (σ : Sl), I σ → match xs.findSome? ans with
      | none => ∃ σ', forL t b (xs.map em) σ h = .nx σ' h ∧ I σ'
      | some m => forL t b (xs.map em) σ h = .rt m h
  | [], σ, i => ⟨σ, rfl, i⟩
  | x :: xs, σ, i => by
    obtain ⟨σ1, h1, q⟩ := step x σ i
    rw [List.findSome?_cons, List.map_cons]
    cases c : ans x with
    | none =>
      rw [c] at q
      obtain ⟨σ2, e, i2⟩ := q
      have ih := forL_find (σ0 := σ0) em I ans h step xs σ2 i2
      dsimp only
      cases d : xs.findSome? ans with
      | none =>
        rw [d] at ih
        obtain ⟨σ', e', i'⟩ := ih
        exact ⟨σ', by rw [forL_cons (ht := h1), e]; exact e', i'⟩
      | some m =>
        rw [d] at ih
        dsimp only at ih ⊢
        rw [forL_cons (ht := h1), e]
        exact ih
    | some m =>
      rw [c] at q
      dsimp only at q ⊢
      rw [forL_cons (ht := h1), q]
      rfl

/-! ### all, any over a list of truth values -/
theorem allM_map {α β : Type} {f : MV → Option α} {g : β → MV} {k : β → α} (hk : ∀ x, f (g x) = some (k x)) : ∀ xs : List β, allM f (xs.map g) = some (xs.map k)
  | [] => rfl
  | x :: xs => by
    rw [List.map_cons]
    unfold allM
    rw [hk x, allM_map hk xs]
    rfl
theorem allBM_map {β : Type} (k : β → Bool) (xs : List β) (h : MH) : allBM h [.lst (xs.map fun x => .bl (k x))] = some (.bl (xs.all k)) := by
  unfold allBM onBls
  simp only [seqM_lst]
  rw [allM_map (f := unBl) (g := fun x => .bl (k x)) (k := k) (fun x => rfl) xs]
  simp [List.all_map]
theorem anyBM_map {β : Type} (k : β → Bool) (xs : List β) (h : MH) : anyBM h [.lst (xs.map fun x => .bl (k x))] = some (.bl (xs.any k)) := by
  unfold anyBM onBls
  simp only [seqM_lst]
  rw [allM_map (f := unBl) (g := fun x => .bl (k x)) (k := k) (fun x => rfl) xs]
  simp [List.any_map]
end Mi
namespace Mi
open PySem PySem.Spec PyProof.Rows L2
theorem Bq.add2 {m n : Nat} {p q : Rat} (a : Bq m p) (b : Bq n q) : Bq (m + n + 1) (p + q) := by
  rw [Rat.add_def', ← Rat.divInt_ofNat]
  refine Bq.divInt (by have := Nat.mul_pos p.den_pos q.den_pos; omega) ?_ ?_
  · exact ((a.1.mul b.2).add (b.1.mul a.2)).up (by omega)
  · rw [Int.natCast_mul]
    exact (a.2.mul b.2).up (by omega)
theorem rng_nat (n : Nat) : rng 0 (n : Int) = (List.range n).map fun i : Nat => .int i := by
  unfold rng
  rw [Int.sub_zero, Int.toNat_natCast]
  exact List.map_congr_left fun i _ => by rw [Int.zero_add]
theorem sml_nat {n : Nat} (h : n ≤ zl) : sml (n : Int) = true := by
  rw [sml_iff]
  have : zl = 16777216 := (rfl)
  omega
theorem rng1_nat {n : Nat} (h : n ≤ zl) : rng1M [.int n] = some ((List.range n).map fun i : Nat => .int i) := by
  unfold rng1M
  simp only [sml_nat h, if_true]
  rw [rng_nat]
theorem rng2_nat {a b : Nat} (ha : a ≤ zl) (hb : b ≤ zl) : rng2M [.int a, .int b] = some ((List.range (b - a)).map fun i : Nat => .int ((a + i : Nat) : Int)) := by
  unfold rng2M
  simp only [sml_nat ha, sml_nat hb, and_self, if_true]
  unfold rng
  congr 1
  have : ((b : Int) - (a : Int)).toNat = b - a := by omega
  rw [this]
  exact List.map_congr_left fun i _ => by rw [Int.natCast_add]
theorem zipL_map {α β : Type} (f : α → MV) (g : β → MV) : ∀ (xs : List α) (ys : List β), zipL (xs.map f) (ys.map g) = (xs.zip ys).map fun p => .tup [f p.1, g p.2]
  | [], _ => by simp [zipL]
  | _ :: _, [] => by simp [zipL]
  | x :: xs, y :: ys => by
    rw [List.map_cons, List.map_cons, List.zip_cons_cons, List.map_cons, ← zipL_map f g xs ys]
    rfl
end Mi
end P_P2
section P_Q1
set_option Elab.async false
set_option linter.all false
set_option maxRecDepth 100000
set_option maxHeartbeats 4000000
set_option exponentiation.threshold 10000
namespace K84
open PySem PySem.Spec PyProof.Rows L2 Mi

theorem whole_int {i : Int} {h : MH} : F_is_whole [.int i] h = .ok (.bl true) h := by
  unfold F_is_whole b_is_whole
  rw [bodyF_at]
  simp [isB]
theorem tuple_of {xs : List MV} {n : Nat} {h : MH} : F_is_tuple_of [.tup xs, .int n] h = .ok (.bl (decide (xs.length = n))) h := by
  unfold F_is_tuple_of b_is_tuple_of
  rw [bodyF_at]
  simp [isB]
  by_cases c : xs.length = n
  · simp [c]
  · have : ((xs.length : Int) == (n : Int)) = false := by exact beq_eq_false_iff_ne.mpr (fun e => c (Int.ofNat.inj e))
    simp [this, c]
theorem fraction_ok {a b : Int} {h : MH} (hb : 0 < b) (hs : Sz 8000 b) : F_fraction [.int a, .int b] h = .ok (fr (Rat.divInt a b)) h := by
  have g0 : ((a.natAbs.gcd b.natAbs : Nat) : Int) ≠ 0 := by
    have : 0 < a.natAbs.gcd b.natAbs := Nat.gcd_pos_of_pos_right _ (by omega)
    omega
  have gs : Sz 8000 ((a.natAbs.gcd b.natAbs : Nat) : Int) := hs.le (by
    simp only [Int.natAbs_natCast]
    exact Nat.le_of_dvd (by omega) (Nat.gcd_dvd_right _ _))
  unfold F_fraction b_fraction
  rw [bodyF_at]
  simp [hb, div_Mi g0 gs]
  unfold fr
  rw [Rat.num_divInt, Rat.den_divInt, if_neg (by omega), Int.sign_eq_one_of_pos hb, Int.one_mul]
  have e : (b.gcd a : Nat) = a.natAbs.gcd b.natAbs := by
    unfold Int.gcd
    exact Nat.gcd_comm _ _
  rw [e]
  have e1 : a.fdiv ((a.natAbs.gcd b.natAbs : Nat) : Int) = a / ((a.natAbs.gcd b.natAbs : Nat) : Int) := Int.fdiv_eq_ediv_of_nonneg _ (by omega)
  have e2 : b.fdiv ((a.natAbs.gcd b.natAbs : Nat) : Int) = ((b.natAbs / (a.natAbs.gcd b.natAbs) : Nat) : Int) := by
    rw [Int.fdiv_eq_ediv_of_nonneg _ (by omega), Int.natCast_ediv]
    have : ((b.natAbs : Nat) : Int) = b := by omega
    rw [this]
  simp [e1, e2]
theorem isfr_ok {q : Rat} {h : MH} : F_is_fraction [fr q] h = .ok (.bl true) h := by
  have hd := den_pos q
  have t : F_is_tuple_of [fr q, .int 2] h = .ok (.bl true) h := by
    have z := tuple_of (xs := [.int q.num, .int q.den]) (n := 2) (h := h)
    simpa [fr] using z
  have hg : Nat.gcd q.num.natAbs q.den = 1 := q.reduced
  have hl : ¬ ((q.den : Int) < 1) := by omega
  unfold F_is_fraction b_is_fraction
  rw [bodyF_at]
  simp [t]
  simp [fr, whole_int, hl, gcdM, hg]
theorem plus_ok {n : Nat} {p q : Rat} {h : MH} (a : Bq n p) (b : Bq n q) (l : n ≤ 2000) : F_plus [fr p, fr q] h = .ok (fr (p + q)) h := by
  have a := a.up l
  have b := b.up l
  unfold F_plus b_plus
  rw [bodyF_at]
  simp [fr, mul_M a.1 b.2, mul_M b.1 a.2, mul_M a.2 b.2]
  rw [fraction_ok (by have := Int.mul_pos (den_pos p) (den_pos q); omega) ((a.2.mul b.2).up (by decide))]
  rw [Rat.add_def', ← Rat.divInt_ofNat, Int.natCast_mul]
  simp [fr]
theorem minus_ok {n : Nat} {p q : Rat} {h : MH} (a : Bq n p) (b : Bq n q) (l : n ≤ 2000) : F_minus [fr p, fr q] h = .ok (fr (p - q)) h := by
  have a := a.up l
  have b := b.up l
  unfold F_minus b_minus
  rw [bodyF_at]
  simp [fr, mul_M a.1 b.2, mul_M b.1 a.2, mul_M a.2 b.2]
  rw [fraction_ok (by have := Int.mul_pos (den_pos p) (den_pos q); omega) ((a.2.mul b.2).up (by decide))]
  rw [Rat.sub_def', ← Rat.divInt_ofNat, Int.natCast_mul]
  simp [fr]
theorem times_ok {n : Nat} {p q : Rat} {h : MH} (a : Bq n p) (b : Bq n q) (l : n ≤ 2000) : F_times [fr p, fr q] h = .ok (fr (p * q)) h := by
  have a := a.up l
  have b := b.up l
  unfold F_times b_times
  rw [bodyF_at]
  simp [fr, mul_M a.1 b.1, mul_M a.2 b.2]
  rw [fraction_ok (by have := Int.mul_pos (den_pos p) (den_pos q); omega) ((a.2.mul b.2).up (by decide))]
  rw [Rat.mul_def', ← Rat.divInt_ofNat, Int.natCast_mul]
  simp [fr]
theorem less_ok {n : Nat} {p q : Rat} {h : MH} (a : Bq n p) (b : Bq n q) (l : n ≤ 2000) : F_is_less [fr p, fr q] h = .ok (.bl (decide (p < q))) h := by
  have a := a.up l
  have b := b.up l
  unfold F_is_less b_is_less
  rw [bodyF_at]
  simp [fr, mul_M a.1 b.2, mul_M b.1 a.2, Rat.lt_iff]
def pq (p : Rat × Rat) : MV := .tup [fr p.1, fr p.2]
def Bp (n : Nat) (p : Rat × Rat) : Prop := Bq n p.1 ∧ Bq n p.2
theorem point_ok {p : Rat × Rat} {h : MH} : F_is_point [pq p] h = .ok (.bl true) h := by
  have t : F_is_tuple_of [pq p, .int 2] h = .ok (.bl true) h := by
    have z := tuple_of (xs := [fr p.1, fr p.2]) (n := 2) (h := h)
    simpa [pq] using z
  unfold F_is_point b_is_point
  rw [bodyF_at]
  simp [t]
  simp [pq, isfr_ok]
def sgR (q : Rat) : Int := if 0 < q then 1 else if q < 0 then -1 else 0
/-- twice the signed area of a, b, c -/
def cr (a b c : Rat × Rat) : Rat := (b.1 - a.1) * (c.2 - a.2) - (b.2 - a.2) * (c.1 - a.1)
theorem sg_num (q : Rat) : (if 0 < q.num then (1 : Int) else 0) - (if q.num < 0 then 1 else 0) = sgR q := by
  unfold sgR
  have h1 : 0 < q ↔ 0 < q.num := by
    rw [Rat.lt_iff]
    simp
  have h2 : q < 0 ↔ q.num < 0 := by
    rw [Rat.lt_iff]
    simp
  simp only [h1, h2]
  split
  · rw [if_neg (by omega)]
    rfl
  · split <;> simp
theorem turn_ok {n : Nat} {a b c : Rat × Rat} {h : MH} (ha : Bp n a) (hb : Bp n b) (hc : Bp n c) (l : n ≤ 400) : F_turn_there [pq a, pq b, pq c] h = .ok (.int (sgR (cr a b c))) h := by
  unfold F_turn_there b_turn_there
  rw [bodyF_at]
  have w := hb.1.sub ha.1
  have f := hc.1.sub ha.1
  have u := hb.2.sub ha.2
  have v := hc.2.sub ha.2
  have t1 := w.mul v
  have t2 := u.mul f
  simp [pq, minus_ok hb.1 ha.1 (by omega), minus_ok hc.1 ha.1 (by omega), minus_ok hb.2 ha.2 (by omega), minus_ok hc.2 ha.2 (by omega), times_ok w v (by omega), times_ok u f (by omega), minus_ok t1 t2 (by omega)]
  simp [fr, intM]
  exact sg_num _
end K84
end P_Q1
section P_Q2
set_option Elab.async false
set_option linter.all false
set_option maxRecDepth 100000
set_option maxHeartbeats 4000000
set_option exponentiation.threshold 10000
namespace K84
open PySem PySem.Spec PyProof.Rows L2 Mi

abbrev Pt := Rat × Rat
def withinQ (a m b : Rat) : Bool := !(decide (m < a) && decide (m < b)) && !(decide (a < m) && decide (b < m))
theorem within_ok {n : Nat} {a m b : Rat} {h : MH} (ha : Bq n a) (hm : Bq n m) (hb : Bq n b) (l : n ≤ 2000) : F_is_within [fr a, fr m, fr b] h = .ok (.bl (withinQ a m b)) h := by
  unfold F_is_within b_is_within
  rw [bodyF_at]
  simp [less_ok hm ha l, less_ok hm hb l, less_ok ha hm l, less_ok hb hm l]
  unfold withinQ
  by_cases h1 : m < a <;> by_cases h2 : m < b <;> by_cases h3 : a < m <;> by_cases h4 : b < m <;> simp [h1, h2, h3, h4]
def onQ (p : Pt) (a b : Pt) : Bool := decide (cr a b p = 0) && (withinQ a.1 p.1 b.1 && withinQ a.2 p.2 b.2)
def wq (w : Pt × Pt) : MV := .tup [pq w.1, pq w.2]
theorem sgR_zero {q : Rat} : (sgR q == 0) = decide (q = 0) := by
  unfold sgR
  by_cases h1 : 0 < q
  · have : q ≠ 0 := Rat.ne_of_gt h1
    simp [h1, this]
  · by_cases h2 : q < 0
    · have : q ≠ 0 := Rat.ne_of_lt h2
      simp [h1, h2, this]
    · have : q = 0 := Rat.le_antisymm (Rat.not_lt.mp h1) (Rat.not_lt.mp h2)
      simp [this]
theorem on_ok {n : Nat} {p a b : Pt} {h : MH} (hp : Bp n p) (ha : Bp n a) (hb : Bp n b) (l : n ≤ 400) : F_is_on_points [pq p, wq (a, b)] h = .ok (.bl (onQ p a b)) h := by
  unfold F_is_on_points b_is_on_points
  rw [bodyF_at]
  have t := turn_ok (h := h) ha hb hp l
  by_cases c : cr a b p = 0
  · have s : sgR (cr a b p) = 0 := by have := sgR_zero (q := cr a b p); simpa [c] using this
    simp [wq, t, s]
    have w1 := within_ok (h := h) ha.1 hp.1 hb.1 (by omega)
    have w2 := within_ok (h := h) ha.2 hp.2 hb.2 (by omega)
    have e := compO_data (vs := [2]) (fi := itAny (tupE (consA (cE (.int 0)) (consA (cE (.int 1)) nilA)))) (t := nameT 2) (σ := [SV.val (pq p), SV.val (.tup [pq a, pq b]), SV.un]) (h := h) (xs := [0, 1]) (fun i : Int => .int i) (fun i => .bl (if i = 0 then withinQ a.1 p.1 b.1 else withinQ a.2 p.2 b.2))
      (f := callE (callN 3 F_is_within) [] (consA (bin2 ixDM (bin2 ixDM (peekE 1) (cE (.int 0))) (peekE 2)) (consA (bin2 ixDM (peekE 0) (peekE 2)) (consA (bin2 ixDM (bin2 ixDM (peekE 1) (cE (.int 1))) (peekE 2)) nilA)))) (by simp) (by simp) (by
        intro x hx
        simp only [List.mem_cons, List.not_mem_nil, or_false] at hx
        refine ⟨_, rfl, ?_⟩
        rcases hx with rfl | rfl
        · simp [wipeM, pq, w1]
        · simp [wipeM, pq, w2])
    rw [e]
    simp
    have e2 := allBM_map (fun i : Int => if i = 0 then withinQ a.1 p.1 b.1 else withinQ a.2 p.2 b.2) [0, 1] h
    simp at e2
    rw [e2]
    simp [onQ, c]
  · have s : (sgR (cr a b p) == 0) = false := by rw [sgR_zero]; simp [c]
    simp [wq, t, s, onQ, c]
end K84
end P_Q2
section P_Q3
set_option Elab.async false
set_option linter.all false
set_option maxRecDepth 100000
set_option maxHeartbeats 4000000
set_option exponentiation.threshold 10000
namespace K84
open PySem PySem.Spec PyProof.Rows L2 Mi

def meetQ (a b c d : Pt) : Bool := onQ a c d || (onQ b c d || (onQ c a b || (onQ d a b || (decide (sgR (cr a b c) * sgR (cr a b d) < 0) && decide (sgR (cr c d a) * sgR (cr c d b) < 0)))))
theorem sgR_sz (q : Rat) : Sz 2 (sgR q) := by
  unfold sgR Sz
  split
  · decide
  · split <;> decide
theorem meet_ok {n : Nat} {a b c d : Pt} {h : MH} (ha : Bp n a) (hb : Bp n b) (hc : Bp n c) (hd : Bp n d) (l : n ≤ 400) : F_do_meet [wq (a, b), wq (c, d)] h = .ok (.bl (meetQ a b c d)) h := by
  unfold F_do_meet b_do_meet
  rw [bodyF_at]
  have o1 := on_ok (h := h) ha hc hd l
  have o2 := on_ok (h := h) hb hc hd l
  have o3 := on_ok (h := h) hc ha hb l
  have o4 := on_ok (h := h) hd ha hb l
  have t1 := turn_ok (h := h) ha hb hc l
  have t2 := turn_ok (h := h) ha hb hd l
  have t3 := turn_ok (h := h) hc hd ha l
  have t4 := turn_ok (h := h) hc hd hb l
  have m1 := mul_M (h := h) (sgR_sz (cr a b c)) (sgR_sz (cr a b d))
  have m2 := mul_M (h := h) (sgR_sz (cr c d a)) (sgR_sz (cr c d b))
  unfold wq at *
  simp only [] at *
  simp [o1, o2, o3, o4]
  unfold meetQ
  cases onQ a c d with
  | true => simp
  | false =>
    cases onQ b c d with
    | true => simp
    | false =>
      cases onQ c a b with
      | true => simp
      | false =>
        cases onQ d a b with
        | true => simp
        | false =>
          simp [t1, t2, t3, t4, m1, m2]
          by_cases x : sgR (cr a b c) * sgR (cr a b d) < 0
          · simp [x]
          · simp [x]
/-! rooms -/
def walls {α : Type} (cs : List α) : List (α × α) := cs.zip (cs.tail ++ cs.take 1)
def cq (cs : List Pt) : MV := .lst (cs.map pq)
theorem rot_len {α : Type} (cs : List α) : (cs.tail ++ cs.take 1).length = cs.length := by
  rw [List.length_append, List.length_tail, List.length_take]
  omega
theorem walls_len {α : Type} (cs : List α) : (walls cs).length = cs.length := by
  unfold walls
  rw [List.length_zip, rot_len, Nat.min_self]
theorem walls_ok {cs : List Pt} {h : MH} (l : cs.length ≤ 1000) : F_walls_there [cq cs] h = .ok (.lst ((walls cs).map wq)) h := by
  unfold F_walls_there b_walls_there
  rw [bodyF_at]
  have z : zl = 16777216 := rfl
  have e : addM h (.lst ((cs.map pq).tail)) (.lst ((cs.map pq).take 1)) = some (.lst ((cs.tail ++ cs.take 1).map pq)) := by
    rw [add_Ml _ _ _ (by simp only [List.length_tail, List.length_take, List.length_map]; omega), List.map_append, List.map_tail, List.map_take]
  have e2 : zipL (cs.map pq) ((cs.tail ++ cs.take 1).map pq) = (walls cs).map wq := by
    rw [zipL_map]
    rfl
  have l2 : ((walls cs).map wq).length ≤ zl := by
    rw [List.length_map, walls_len]
    omega
  unfold cq
  simp [e, -List.map_tail, -List.map_take, -List.map_append, -List.length_map]
  rw [e2]
  simp [l2, -List.length_map]
def dbl (cs : List Pt) : Rat := (walls cs).foldl (fun s w => s + (w.1.1 * w.2.2 - w.2.1 * w.1.2)) 0
theorem total_ok {qs : List Rat} {n : Nat} {h : MH} (hq : ∀ q ∈ qs, Bq n q) (l : (qs.length + 1) * (n + 1) ≤ 2000) : F_total [.lst (qs.map fr)] h = .ok (fr (qs.foldl (· + ·) 0)) h := by
  unfold F_total b_total
  rw [bodyF_at]
  have nought : (c_NOUGHT : MV) = fr 0 := rfl
  obtain ⟨σ', h', e, i⟩ := forL_inv (t := nameT 2) (b := setS 1 (callE (callN 2 F_plus) [] (consA (varE 1) (consA (varE 2) nilA)))) fr
    (fun pre post σ h' => h' = h ∧ pre ++ post = qs ∧ Bq ((pre.length + 1) * (n + 1)) (pre.foldl (· + ·) 0) ∧ ∃ s, σ = [.val (.lst (qs.map fr)), .val (fr (pre.foldl (· + ·) 0)), s])
    (by
      rintro pre x post σ h' ⟨rfl, he, hb, s, rfl⟩
      refine ⟨_, rfl, ?_⟩
      have hx : Bq n x := hq x (by rw [← he]; simp)
      have hl : pre.length + 1 ≤ qs.length := by rw [← he]; simp
      have b1 : (pre.length + 1) * (n + 1) ≤ 2000 := Nat.le_trans (Nat.mul_le_mul_right _ (by omega)) l
      have b2 : n ≤ 2000 := by
        have : 1 * (n + 1) ≤ (qs.length + 1) * (n + 1) := Nat.mul_le_mul_right _ (by omega)
        omega
      have p := plus_ok (h := h') (hb.up b1) (hx.up b2) (Nat.le_refl _)
      refine ⟨[.val (.lst (qs.map fr)), .val (fr (pre.foldl (· + ·) 0 + x)), .val (fr x)], h', .inl (by simp [p]), rfl, by simpa using he, ?_, ?_⟩
      · have q := hb.add2 hx
        rw [List.foldl_append, List.length_append]
        refine q.up ?_
        simp only [List.length_singleton]
        rw [Nat.succ_mul (pre.length + 1)]
        omega
      · exact ⟨.val (fr x), by simp [List.foldl_append]⟩)
    qs [] [.val (.lst (qs.map fr)), .val (fr 0), .un] h ⟨rfl, rfl, by exact ⟨by show (0 : Int).natAbs < _; exact Nat.pow_pos (by decide), by show (1 : Int).natAbs < _; exact Nat.one_lt_pow (by simp) (by decide)⟩, _, rfl⟩
  obtain ⟨rfl, _, _, s, rfl⟩ := i
  simp [nought]
  simp at e
  rw [e]
  simp

theorem Bp.up {m n : Nat} {p : Pt} (h : Bp m p) (l : m ≤ n) : Bp n p := ⟨h.1.up l, h.2.up l⟩
def Bc (n : Nat) (cs : List Pt) : Prop := ∀ p ∈ cs, Bp n p
theorem Bc.wall {n : Nat} {cs : List Pt} (h : Bc n cs) {w : Pt × Pt} (hw : w ∈ walls cs) : Bp n w.1 ∧ Bp n w.2 := by
  have q := List.of_mem_zip (a := w.1) (b := w.2) hw
  refine ⟨h _ q.1, h _ ?_⟩
  rcases List.mem_append.mp q.2 with z | z
  · exact List.mem_of_mem_tail z
  · exact List.mem_of_mem_take z
theorem double_ok {cs : List Pt} {h : MH} (hc : Bc 30 cs) (l : cs.length ≤ 12) : F_double_there [cq cs] h = .ok (fr (dbl cs)) h := by
  unfold F_double_there b_double_there
  rw [bodyF_at]
  have wl := walls_ok (cs := cs) (h := h) (by omega)
  have z : zl = 16777216 := rfl
  have e := compO_data (vs := [1, 2]) (fi := itAny (callE (callN 1 F_walls_there) [] (consA (varE 0) nilA))) (t := tupT 2 (consT (nameT 1) (consT (nameT 2) nilT))) (σ := [SV.val (cq cs), SV.un, SV.un]) (h := h) (xs := walls cs) wq
    (fun w => fr (w.1.1 * w.2.2 - w.2.1 * w.1.2)) (f := callE (callN 2 F_minus) [] (consA (callE (callN 2 F_times) [] (consA (bin2 ixDM (peekE 1) (cE (.int 0))) (consA (bin2 ixDM (peekE 2) (cE (.int 1))) nilA))) (consA (callE (callN 2 F_times) [] (consA (bin2 ixDM (peekE 2) (cE (.int 0))) (consA (bin2 ixDM (peekE 1) (cE (.int 1))) nilA))) nilA)))
    (by simp [wl]) (by rw [walls_len]; omega) (by
      rintro ⟨a, b⟩ hw
      obtain ⟨ha, hb⟩ := hc.wall hw
      have t1 := times_ok (h := h) ha.1 hb.2 (by decide)
      have t2 := times_ok (h := h) hb.1 ha.2 (by decide)
      have m := minus_ok (h := h) (ha.1.mul hb.2) (hb.1.mul ha.2) (by decide)
      refine ⟨_, rfl, ?_⟩
      simp [wipeM, pq, t1, t2, m])
  have tt := total_ok (qs := (walls cs).map fun w => w.1.1 * w.2.2 - w.2.1 * w.1.2) (n := 121) (h := h) (by
    intro q hq
    obtain ⟨w, hw, rfl⟩ := List.mem_map.mp hq
    obtain ⟨ha, hb⟩ := hc.wall hw
    exact (ha.1.mul hb.2).sub (hb.1.mul ha.2)) (by
      rw [List.length_map, walls_len]
      have : (cs.length + 1) * (121 + 1) ≤ 13 * 122 := Nat.mul_le_mul_right _ (by omega)
      omega)
  rw [List.map_map] at tt
  have ee : (fr ∘ fun w : Pt × Pt => w.1.1 * w.2.2 - w.2.1 * w.1.2) = fun w => fr (w.1.1 * w.2.2 - w.2.1 * w.1.2) := rfl
  rw [ee] at tt
  simp [e, tt, dbl, List.foldl_map]
end K84
end P_Q3
section P_Q4
set_option Elab.async false
set_option linter.all false
set_option maxRecDepth 100000
set_option maxHeartbeats 4000000
set_option exponentiation.threshold 10000
namespace K84
open PySem PySem.Spec PyProof.Rows L2 Mi

def nth {α : Type} [Inhabited α] (cs : List α) (i : Nat) : α := cs.getD i default
theorem nth_get {α : Type} [Inhabited α] {cs : List α} {i : Nat} (h : i < cs.length) : cs[i]? = some (nth cs i) := by
  unfold nth
  rw [List.getD_eq_getElem?_getD, List.getElem?_eq_getElem h]
  rfl
theorem nth_mem {α : Type} [Inhabited α] {cs : List α} {i : Nat} (h : i < cs.length) : nth cs i ∈ cs := List.mem_of_getElem? (nth_get h)
def prevI (n i : Nat) : Nat := if i = 0 then n - 1 else i - 1
theorem prevI_lt {n i : Nat} (h : i < n) : prevI n i < n := by
  unfold prevI
  split <;> omega
theorem atI_prev {α : Type} (xs : List α) {i : Nat} (h : i < xs.length) : atI xs ((i : Int) - 1) = xs[prevI xs.length i]? := by
  unfold prevI
  by_cases c : i = 0
  · subst c
    rw [if_pos rfl]
    have := atI_neg xs 1 (by decide) (by omega)
    simpa using this
  · rw [if_neg c]
    have e : (i : Int) - 1 = ((i - 1 : Nat) : Int) := by omega
    rw [e, atI_n]
theorem atI_next {α : Type} (xs : List α) (i : Nat) : atI xs (((i : Int) + 1).fmod (xs.length : Int)) = xs[(i + 1) % xs.length]? := by
  have e : ((i : Int) + 1).fmod (xs.length : Int) = (((i + 1) % xs.length : Nat) : Int) := by
    rw [Int.fmod_eq_emod_of_nonneg _ (by omega)]
    exact (Int.natCast_emod (i + 1) xs.length).symm
  rw [e, atI_n]
theorem walls_get {α : Type} [Inhabited α] {cs : List α} {i : Nat} (h : i < cs.length) : (walls cs)[i]? = some (nth cs i, nth cs ((i + 1) % cs.length)) := by
  unfold walls
  rw [List.getElem?_zip_eq_some]
  refine ⟨nth_get h, ?_⟩
  by_cases c : i + 1 < cs.length
  · rw [List.getElem?_append_left (by rw [List.length_tail]; omega), List.getElem?_tail, Nat.mod_eq_of_lt c, nth_get c]
  · have e : i + 1 = cs.length := by omega
    rw [List.getElem?_append_right (by rw [List.length_tail]; omega), List.length_tail, e, Nat.mod_self]
    have e2 : i - (cs.length - 1) = 0 := by omega
    rw [e2, List.getElem?_take_of_lt (by decide), nth_get (by omega)]
def noStraight (cs : List Pt) : Prop := ∀ i, i < cs.length → cr (nth cs (prevI cs.length i)) (nth cs i) (nth cs ((i + 1) % cs.length)) ≠ 0
def noMeet (cs : List Pt) : Prop := ∀ i j, i + 2 ≤ j → j < cs.length → ¬ (i = 0 ∧ j = cs.length - 1) → meetQ (nth cs i) (nth cs ((i + 1) % cs.length)) (nth cs j) (nth cs ((j + 1) % cs.length)) = false
theorem straight_ok {cs : List Pt} {h : MH} (hc : Bc 30 cs) (l : cs.length ≤ 1000) (hs : noStraight cs) : F_straight_at [cq cs] h = .ok .non h := by
  unfold F_straight_at b_straight_at
  rw [bodyF_at]
  have z : zl = 16777216 := rfl
  have lc : (cs.map pq).length = cs.length := List.length_map ..
  obtain ⟨σ', h', e, rfl, _⟩ := forL_inv (α := Nat) (t := nameT 2) (b := ifS (tstE (bin2 eqM (callE (callN 3 F_turn_there) [] (consA (bin2 ixDM (peekE 0) (bin2 subM (peekE 2) (cE (.int 1)))) (consA (bin2 ixDM (peekE 0) (peekE 2)) (consA (bin2 ixDM (peekE 0) (bin2 modM (bin2 addM (peekE 2) (cE (.int 1))) (peekE 1))) nilA)))) (cE (.int 0)))) (retS (varE 2)) nextS)
    (fun i : Nat => .int i) (fun pre post σ h' => h' = h ∧ (∀ i ∈ post, i < cs.length) ∧ ∃ s, σ = [.val (cq cs), .val (.int cs.length), s])
    (by
      rintro pre i post σ h' ⟨rfl, hp, s, rfl⟩
      have hi : i < cs.length := hp i List.mem_cons_self
      have n0 : (cs.length : Int) ≠ 0 := by omega
      have g1 := nth_get (prevI_lt hi)
      have g2 := nth_get hi
      have g3 := nth_get (cs := cs) (Nat.mod_lt (i + 1) (by omega : 0 < cs.length))
      have t := turn_ok (h := h') (hc _ (nth_mem (prevI_lt hi))) (hc _ (nth_mem hi)) (hc _ (nth_mem (cs := cs) (Nat.mod_lt (i + 1) (by omega : 0 < cs.length)))) (by decide)
      have q1 : atI (cs.map pq) ((i : Int) - 1) = some (pq (nth cs (prevI cs.length i))) := by
        rw [atI_prev _ (by rw [lc]; exact hi), lc, List.getElem?_map, g1]
        rfl
      have q2 : atI (cs.map pq) (i : Int) = some (pq (nth cs i)) := by
        rw [atI_n, List.getElem?_map, g2]
        rfl
      have q3 : atI (cs.map pq) (((i : Int) + 1).fmod (cs.length : Int)) = some (pq (nth cs ((i + 1) % cs.length))) := by
        have := atI_next (cs.map pq) i
        rw [lc] at this
        rw [this, List.getElem?_map, g3]
        rfl
      have s0 : (sgR (cr (nth cs (prevI cs.length i)) (nth cs i) (nth cs ((i + 1) % cs.length))) == 0) = false := by
        rw [sgR_zero]
        simpa using hs i hi
      refine ⟨_, rfl, [.val (cq cs), .val (.int cs.length), .val (.int i)], h', .inl ?_, rfl, fun x hx => hp x (List.mem_cons_of_mem _ hx), _, rfl⟩
      have md := mod_Mi ((i : Int) + 1) (cs.length : Int) h' n0
      simp [cq, md, q1, q2, q3, t, s0])
    (List.range cs.length) [] [.val (cq cs), .val (.int cs.length), .un] h ⟨rfl, fun i hi => List.mem_range.mp hi, _, rfl⟩
  have r := rng1_nat (n := cs.length) (by omega)
  simp [cq] at e ⊢
  simp [r, e]
theorem meeting_ok {cs : List Pt} {h : MH} (hc : Bc 30 cs) (l : cs.length ≤ 1000) (hs : noMeet cs) : F_meeting_at [cq cs] h = .ok .non h := by
  unfold F_meeting_at b_meeting_at
  rw [bodyF_at]
  have z : zl = 16777216 := rfl
  have lc : (cs.map pq).length = cs.length := List.length_map ..
  have wl := walls_ok (cs := cs) (h := h) (by omega)
  have bw : ∀ i, i < cs.length → Bp 30 (nth cs i) := fun i hi => hc _ (nth_mem hi)
  obtain ⟨σ', h', e, rfl, _⟩ := forL_inv (α := Nat) (t := nameT 3) (b := forS (nameT 4) (itB rng2M (consA (bin2 addM (peekE 3) (cE (.int 2))) (consA (varE 2) nilA))) (ifS (andT (tstE (bin2 neM (tupE (consA (varE 3) (consA (varE 4) nilA))) (tupE (consA (cE (.int 0)) (consA (bin2 subM (peekE 2) (cE (.int 1))) nilA))))) (tstE (callE (callN 2 F_do_meet) [] (consA (bin2 ixDM (peekE 1) (peekE 3)) (consA (bin2 ixDM (peekE 1) (peekE 4)) nilA))))) (retS (tupE (consA (varE 3) (consA (varE 4) nilA)))) nextS))
    (fun i : Nat => .int i) (fun pre post σ h' => h' = h ∧ (∀ i ∈ post, i < cs.length) ∧ ∃ s t, σ = [.val (cq cs), .val (.lst ((walls cs).map wq)), .val (.int cs.length), s, t])
    (by
      rintro pre i post σ h' ⟨rfl, hp, s, t, rfl⟩
      have hi : i < cs.length := hp i List.mem_cons_self
      refine ⟨_, rfl, ?_⟩
      obtain ⟨σ2, h2, e2, rfl, _, s2, rfl⟩ := forL_inv (α := Nat) (t := nameT 4) (b := ifS (andT (tstE (bin2 neM (tupE (consA (varE 3) (consA (varE 4) nilA))) (tupE (consA (cE (.int 0)) (consA (bin2 subM (peekE 2) (cE (.int 1))) nilA))))) (tstE (callE (callN 2 F_do_meet) [] (consA (bin2 ixDM (peekE 1) (peekE 3)) (consA (bin2 ixDM (peekE 1) (peekE 4)) nilA))))) (retS (tupE (consA (varE 3) (consA (varE 4) nilA)))) nextS)
        (fun k : Nat => .int ((i + 2 + k : Nat) : Int)) (fun pre post σ h2 => h2 = h' ∧ (∀ k ∈ post, i + 2 + k < cs.length) ∧ ∃ s, σ = [.val (cq cs), .val (.lst ((walls cs).map wq)), .val (.int cs.length), .val (.int i), s])
        (by
          rintro pre k post σ h2 ⟨rfl, hp, s, rfl⟩
          have hj : i + 2 + k < cs.length := hp k List.mem_cons_self
          refine ⟨_, rfl, [.val (cq cs), .val (.lst ((walls cs).map wq)), .val (.int cs.length), .val (.int i), .val (.int ((i + 2 + k : Nat) : Int))], h2, .inl ?_, rfl, fun x hx => hp x (List.mem_cons_of_mem _ hx), _, rfl⟩
          have q1 : atI ((walls cs).map wq) (i : Int) = some (wq (nth cs i, nth cs ((i + 1) % cs.length))) := by
            rw [atI_n, List.getElem?_map, walls_get hi]
            rfl
          have q2 : atI ((walls cs).map wq) ((i + 2 + k : Nat) : Int) = some (wq (nth cs (i + 2 + k), nth cs ((i + 2 + k + 1) % cs.length))) := by
            rw [atI_n, List.getElem?_map, walls_get hj]
            rfl
          have m := meet_ok (h := h2) (bw _ hi) (bw _ (Nat.mod_lt (i + 1) (by omega))) (bw _ hj) (bw _ (Nat.mod_lt (i + 2 + k + 1) (by omega))) (by decide)
          have ne : neM h2 (.tup [.int i, .int ((i + 2 + k : Nat) : Int)]) (.tup [.int 0, .int ((cs.length : Int) - 1)]) = some (.bl (!(decide (i = 0) && decide (i + 2 + k = cs.length - 1)))) := by
            unfold neM
            rw [if_pos ⟨rfl, rfl⟩]
            have e1 : ((i : Int) == 0) = decide (i = 0) := by
              by_cases c : i = 0 <;> simp [c]
            have e2 : (((i + 2 + k : Nat) : Int) == (cs.length : Int) - 1) = decide (i + 2 + k = cs.length - 1) := by
              by_cases c : i + 2 + k = cs.length - 1
              · rw [c]
                simp
                omega
              · simp [c]
                omega
            simp only [meq, meqs, e1, e2, Bool.and_true]
          by_cases c : i = 0 ∧ i + 2 + k = cs.length - 1
          · have cc : (decide (i = 0) && decide (i + 2 + k = cs.length - 1)) = true := by simp [c.1]; omega
            rw [cc] at ne
            simp at ne
            simp [ne]
          · have mm := hs i (i + 2 + k) (by omega) hj c
            rw [mm] at m
            simp at ne q2 m
            simp [ne, q1, q2, m])
        (List.range (cs.length - (i + 2))) [] [.val (cq cs), .val (.lst ((walls cs).map wq)), .val (.int cs.length), .val (.int i), t] h' ⟨rfl, fun k hk => by have := List.mem_range.mp hk; omega, _, rfl⟩
      refine ⟨[.val (cq cs), .val (.lst ((walls cs).map wq)), .val (.int cs.length), .val (.int i), s2], h2, .inl ?_, rfl, fun x hx => hp x (List.mem_cons_of_mem _ hx), _, _, rfl⟩
      have r := rng2_nat (a := i + 2) (b := cs.length) (by omega) (by omega)
      simp at e2 r ⊢
      simp [r, e2])
    (List.range cs.length) [] [.val (cq cs), .val (.lst ((walls cs).map wq)), .val (.int cs.length), .un, .un] h ⟨rfl, fun i hi => List.mem_range.mp hi, _, _, rfl⟩
  have r := rng1_nat (n := cs.length) (by omega)
  simp [wl]
  simp [cq] at e ⊢
  simp [r, e]
end K84
end P_Q4
section P_Q5
set_option Elab.async false
set_option linter.all false
set_option maxRecDepth 100000
set_option maxHeartbeats 4000000
set_option exponentiation.threshold 10000
namespace K84
open PySem PySem.Spec PyProof.Rows L2 Mi

theorem meq_fr (a b : Rat) : meq (fr a) (fr b) = decide (a = b) := by
  unfold fr
  simp only [meq, meqs, Bool.and_true]
  by_cases c : a = b
  · subst c
    simp
  · have : ¬ (a.num = b.num ∧ (a.den : Int) = (b.den : Int)) := fun ⟨h1, h2⟩ => c (Rat.ext h1 (Int.ofNat.inj h2))
    by_cases h1 : a.num = b.num
    · have h2 : ¬ ((a.den : Int) = (b.den : Int)) := fun h2 => this ⟨h1, h2⟩
      have h3 : ((a.den : Int) == (b.den : Int)) = false := beq_eq_false_iff_ne.mpr h2
      rw [h3]
      simp [c]
    · have h3 : (a.num == b.num) = false := beq_eq_false_iff_ne.mpr h1
      rw [h3]
      simp [c]
theorem meq_pq (a b : Pt) : meq (pq a) (pq b) = decide (a = b) := by
  unfold pq
  simp only [meq, meqs, Bool.and_true, meq_fr]
  by_cases c : a = b
  · subst c
    simp
  · have : ¬ (a.1 = b.1 ∧ a.2 = b.2) := fun ⟨h1, h2⟩ => c (Prod.ext h1 h2)
    by_cases h1 : a.1 = b.1
    · have h2 : ¬ a.2 = b.2 := fun h2 => this ⟨h1, h2⟩
      simp [h1, h2, c]
    · simp [h1, c]
theorem ok_pq (a : Pt) (n : Nat) : okV (n + 2) (pq a) = true := by
  unfold pq fr
  simp [okV]
theorem ok_pqs (cs : List Pt) (n : Nat) : okV (n + 3) (.lst (cs.map pq)) = true := by
  show (cs.map pq).all (okV (n + 2)) = true
  rw [List.all_eq_true]
  intro x hx
  obtain ⟨p, _, rfl⟩ := List.mem_map.mp hx
  exact ok_pq p n
theorem inMb_pq (p : Pt) (cs : List Pt) : inMb (pq p) (.lst (cs.map pq)) = some (decide (p ∈ cs)) := by
  unfold inMb
  dsimp only
  rw [if_pos ⟨ok_pq p 38, ok_pqs cs 37⟩, List.any_map]
  congr 1
  rw [Bool.eq_iff_iff]
  simp only [List.any_eq_true, Function.comp, meq_pq, decide_eq_true_eq]
  exact ⟨fun ⟨x, h1, h2⟩ => h2 ▸ h1, fun h => ⟨p, h, rfl⟩⟩
theorem corners_ok {cs : List Pt} {h : MH} (l : cs.length ≤ 1000) (l3 : 3 ≤ cs.length) (nd : cs.Nodup) : F_are_corners [cq cs] h = .ok (.bl true) h := by
  unfold F_are_corners b_are_corners
  rw [bodyF_at]
  have z : zl = 16777216 := rfl
  have lc : (cs.map pq).length = cs.length := List.length_map ..
  have e1 := compO_data (vs := [1]) (fi := itAny (varE 0)) (t := nameT 1) (σ := [SV.val (cq cs), SV.un, SV.un]) (h := h) (xs := cs) pq (fun _ => .bl true)
    (f := callE (callN 1 F_is_point) [] (consA (varE 1) nilA)) (by simp [cq]) (by omega) (by
      intro p hp
      refine ⟨_, rfl, ?_⟩
      simp [wipeM, point_ok])
  have e2 := compO_data (vs := [2]) (fi := itB rng1M (consA (callB lenM (consA (peekE 0) nilA)) nilA)) (t := nameT 2) (σ := [SV.val (cq cs), SV.un, SV.un]) (h := h) (xs := List.range cs.length) (fun i : Nat => .int i) (fun i => .bl true)
    (f := bin2 notInM (bin2 ixDM (peekE 0) (peekE 2)) (slV (peekE 0) noP (prtP (peekE 2)))) (by
      have r := rng1_nat (n := cs.length) (by omega)
      simp [cq, r]) (by rw [List.length_range]; omega) (by
      intro i hi
      have hi := List.mem_range.mp hi
      refine ⟨_, rfl, ?_⟩
      have q : atI (cs.map pq) (i : Int) = some (pq (nth cs i)) := by
        rw [atI_n, List.getElem?_map, nth_get hi]
        rfl
      have c : cutL (cs.map pq) none (some (i : Int)) = (cs.take i).map pq := by rw [cutL_to, List.map_take]
      have ni : nth cs i ∉ cs.take i := by
        intro hm
        obtain ⟨j, hj, e⟩ := List.mem_iff_getElem.mp hm
        rw [List.length_take] at hj
        rw [List.getElem_take] at e
        have g := nth_get hi
        rw [List.getElem?_eq_getElem hi] at g
        have g2 := Option.some.inj g
        have e3 : cs[j] = cs[i] := e.trans g2.symm
        have := (List.getElem_inj (h₀ := by omega) (h₁ := hi) nd).mp e3
        omega
      have ne : notInM h (pq (nth cs i)) (.lst ((cs.take i).map pq)) = some (.bl true) := by
        unfold notInM
        rw [inMb_pq]
        simp [ni]
      simp [wipeM, cq, q, c, ne, -List.map_take])
  have a1 := allBM_map (fun _ : Pt => true) cs h
  have a2 := allBM_map (fun _ : Nat => true) (List.range cs.length) h
  have l3' : ¬ ((cs.length : Int) < 3) := by omega
  rw [List.all_eq_true.mpr fun _ _ => rfl] at a1 a2
  have t1 : tyM h (cq cs) = some .list := rfl
  have t2 : lenM h [cq cs] = some (.int cs.length) := by simp [cq]
  simp [e1, e2, a1, a2, t1, t2, isB, l3', -List.map_const']
theorem Bq_zero (n : Nat) (hn : 0 < n) : Bq n 0 := ⟨by show (0 : Int).natAbs < _; exact Nat.pow_pos (by decide), by show (1 : Int).natAbs < _; exact Nat.one_lt_pow (by omega) (by decide)⟩
theorem sum_bd {n : Nat} : ∀ {qs : List Rat} {q0 : Rat} {m : Nat}, (∀ q ∈ qs, Bq n q) → Bq m q0 → Bq (m + qs.length * (n + 1)) (qs.foldl (· + ·) q0)
  | [], q0, m, _, h0 => h0.up (by omega)
  | q :: qs, q0, m, h, h0 => by
    rw [List.foldl_cons]
    have := sum_bd (n := n) (qs := qs) (q0 := q0 + q) (m := m + n + 1) (fun x hx => h x (List.mem_cons_of_mem _ hx)) (h0.add2 (h q List.mem_cons_self))
    refine this.up ?_
    rw [List.length_cons, Nat.succ_mul]
    omega
theorem dbl_bd {cs : List Pt} (hc : Bc 30 cs) (l : cs.length ≤ 12) : Bq 2000 (dbl cs) := by
  have e : dbl cs = ((walls cs).map fun w => w.1.1 * w.2.2 - w.2.1 * w.1.2).foldl (· + ·) 0 := by
    unfold dbl
    rw [List.foldl_map]
  rw [e]
  have := sum_bd (n := 121) (m := 1) (q0 := 0) (qs := (walls cs).map fun w => w.1.1 * w.2.2 - w.2.1 * w.1.2) (fun q hq => by
    obtain ⟨w, hw, rfl⟩ := List.mem_map.mp hq
    obtain ⟨ha, hb⟩ := hc.wall hw
    exact (ha.1.mul hb.2).sub (hb.1.mul ha.2)) (Bq_zero 1 (by decide))
  refine this.up ?_
  rw [List.length_map, walls_len]
  have : cs.length * (121 + 1) ≤ 12 * 122 := Nat.mul_le_mul_right _ l
  omega
/-- a room that the program takes -/
structure RoomQ (cs : List Pt) : Prop where
  l : cs.length ≤ 12
  l3 : 3 ≤ cs.length
  bd : Bc 30 cs
  nd : cs.Nodup
  st : noStraight cs
  me : noMeet cs
  ab : ¬ dbl cs < 0
theorem room_ok {cs : List Pt} {h : MH} (R : RoomQ cs) : F_is_room [cq cs] h = .ok (.bl true) h := by
  have l := R.l
  have s := straight_ok (h := h) R.bd (by omega) R.st
  have m := meeting_ok (h := h) R.bd (by omega) R.me
  have d := double_ok (h := h) R.bd R.l
  have bz := dbl_bd R.bd R.l
  have f : F_fault_there [cq cs] h = .ok .non h := by
    unfold F_fault_there b_fault_there
    rw [bodyF_at]
    have ls := less_ok (h := h) bz (Bq_zero 2000 (by decide)) (by decide)
    have nought : (c_NOUGHT : MV) = fr 0 := rfl
    simp [s, m, d, isN, nought, ls, R.ab]
  unfold F_is_room b_is_room
  rw [bodyF_at]
  simp [corners_ok (h := h) (by omega : cs.length ≤ 1000) R.l3 R.nd, f, isN]
theorem check_room_ok {cs : List Pt} {h : MH} (R : RoomQ cs) : F_check_room [cq cs] h = .ok .non h := by
  unfold F_check_room b_check_room
  rw [bodyF_at]
  simp [room_ok R]
theorem check_point_ok {p : Pt} {h : MH} : F_check_point [pq p] h = .ok .non h := by
  unfold F_check_point b_check_point
  rw [bodyF_at]
  simp [point_ok]
end K84
end P_Q5
section P_Q6
set_option Elab.async false
set_option linter.all false
set_option maxRecDepth 100000
set_option maxHeartbeats 4000000
set_option exponentiation.threshold 10000
namespace K84
open PySem PySem.Spec PyProof.Rows L2 Mi

abbrev T3 := Int × Int × Int
def trv (t : T3) : MV := .tup [.int t.1, .int t.2.1, .int t.2.2]
def toPt (t : T3) : Pt := (Rat.divInt t.1 t.2.2, Rat.divInt t.2.1 t.2.2)
def sgI (i : Int) : Int := if 0 < i then 1 else if i < 0 then -1 else 0
def det (a b c : T3) : Int := a.1 * (b.2.1 * c.2.2 - c.2.1 * b.2.2) - a.2.1 * (b.1 * c.2.2 - c.1 * b.2.2) + a.2.2 * (b.1 * c.2.1 - c.1 * b.2.1)
/-- a triple with a weight above nought, numbers of at most n bits -/
structure Tok (n : Nat) (t : T3) : Prop where
  x : Sz n t.1
  y : Sz n t.2.1
  w : Sz n t.2.2
  p : 0 < t.2.2
theorem Tok.up {m n : Nat} {t : T3} (h : Tok m t) (l : m ≤ n) : Tok n t := ⟨h.x.up l, h.y.up l, h.w.up l, h.p⟩
theorem cast_mul_div {x w : Int} (h : 0 < w) : (x : Rat) = (w : Rat) * Rat.divInt x w := by
  rw [Rat.divInt_eq_div]
  have hw : (w : Rat) ≠ 0 := by
    intro e
    have : w = 0 := by exact_mod_cast e
    omega
  rw [Rat.mul_comm, Rat.div_mul_cancel hw]
theorem sgR_mul {k q : Rat} (h : 0 < k) : sgR (k * q) = sgR q := by
  unfold sgR
  have h1 : 0 < k * q ↔ 0 < q := Rat.mul_pos_iff_of_pos_left h
  have h2 : k * q < 0 ↔ q < 0 := Rat.mul_neg_iff_of_pos_left h
  simp only [h1, h2]
theorem sgR_int (i : Int) : sgR (i : Rat) = sgI i := by
  unfold sgR sgI
  have h1 : (0 : Rat) < (i : Rat) ↔ 0 < i := Rat.intCast_pos
  have h2 : (i : Rat) < 0 ↔ i < 0 := by
    have := Rat.intCast_lt_intCast (a := i) (b := 0)
    simpa using this
  simp only [h1, h2]
theorem pos_cast {w : Int} (h : 0 < w) : (0 : Rat) < (w : Rat) := Rat.intCast_pos.mpr h
theorem det_cr {a b c : T3} (ha : 0 < a.2.2) (hb : 0 < b.2.2) (hc : 0 < c.2.2) : sgI (det a b c) = sgR (cr (toPt a) (toPt b) (toPt c)) := by
  rw [← sgR_int]
  have e : ((det a b c : Int) : Rat) = ((a.2.2 : Rat) * (b.2.2 : Rat) * (c.2.2 : Rat)) * cr (toPt a) (toPt b) (toPt c) := by
    have a1 := cast_mul_div (x := a.1) ha
    have a2 := cast_mul_div (x := a.2.1) ha
    have b1 := cast_mul_div (x := b.1) hb
    have b2 := cast_mul_div (x := b.2.1) hb
    have c1 := cast_mul_div (x := c.1) hc
    have c2 := cast_mul_div (x := c.2.1) hc
    unfold det cr toPt
    simp only [Rat.intCast_add, Rat.intCast_sub, Rat.intCast_mul]
    rw [a1, a2, b1, b2, c1, c2]
    generalize Rat.divInt a.1 a.2.2 = p1
    generalize Rat.divInt a.2.1 a.2.2 = p2
    generalize Rat.divInt b.1 b.2.2 = q1
    generalize Rat.divInt b.2.1 b.2.2 = q2
    generalize Rat.divInt c.1 c.2.2 = r1
    generalize Rat.divInt c.2.1 c.2.2 = r2
    grind
  rw [e, sgR_mul (Rat.mul_pos (Rat.mul_pos (pos_cast ha) (pos_cast hb)) (pos_cast hc))]
theorem less_cr {x y v w : Int} (hv : 0 < v) (hw : 0 < w) : sgI (x * w - y * v) = sgR (Rat.divInt x v - Rat.divInt y w) := by
  rw [← sgR_int]
  have e : ((x * w - y * v : Int) : Rat) = ((v : Rat) * (w : Rat)) * (Rat.divInt x v - Rat.divInt y w) := by
    have a1 := cast_mul_div (x := x) hv
    have a2 := cast_mul_div (x := y) hw
    simp only [Rat.intCast_sub, Rat.intCast_mul]
    rw [a1, a2]
    generalize Rat.divInt x v = p1
    generalize Rat.divInt y w = p2
    grind
  rw [e, sgR_mul (Rat.mul_pos (pos_cast hv) (pos_cast hw))]
theorem sgR_neg_iff {p q : Rat} : sgR (p - q) < 0 ↔ p < q := by
  have h1 : 0 < p - q ↔ q < p := (Rat.lt_iff_sub_pos q p).symm
  have h2 : p - q < 0 ↔ p < q := by
    rw [Rat.lt_iff_sub_pos (p - q) 0, Rat.lt_iff_sub_pos p q]
    have : (0 : Rat) - (p - q) = q - p := by grind
    rw [this]
  unfold sgR
  by_cases c1 : q < p
  · have : ¬ p < q := Rat.not_lt.mpr (Rat.le_of_lt c1)
    simp [h1, c1, this]
  · by_cases c2 : p < q
    · simp [h1, h2, c1, c2]
    · simp [h1, h2, c1, c2]
theorem lt_cross {x y v w : Int} (hv : 0 < v) (hw : 0 < w) : x * w < y * v ↔ Rat.divInt x v < Rat.divInt y w := by
  rw [← sgR_neg_iff, ← less_cr hv hw]
  unfold sgI
  split
  · omega
  · split <;> omega
theorem eq_cross {x y v w : Int} (hv : 0 < v) (hw : 0 < w) : x * w = y * v ↔ Rat.divInt x v = Rat.divInt y w := by
  constructor
  · intro h
    refine Rat.le_antisymm (Rat.not_lt.mp fun c => ?_) (Rat.not_lt.mp fun c => ?_)
    · have := (lt_cross hw hv).mpr c
      omega
    · have := (lt_cross hv hw).mpr c
      omega
  · intro h
    have h1 : ¬ x * w < y * v := fun c => Rat.ne_of_lt ((lt_cross hv hw).mp c) h
    have h2 : ¬ y * v < x * w := fun c => Rat.ne_of_lt ((lt_cross hw hv).mp c) h.symm
    omega
/-! the programs on triples -/
theorem sign_ok {i : Int} {h : MH} : F_sign_of [.int i] h = .ok (.int (sgI i)) h := by
  unfold F_sign_of b_sign_of
  rw [bodyF_at]
  simp [sgI]
  by_cases c1 : 0 < i
  · have : ¬ i < 0 := by omega
    simp [c1, this]
  · by_cases c2 : i < 0 <;> simp [c1, c2]
theorem det_sz {n : Nat} {a b c : T3} (ha : Tok n a) (hb : Tok n b) (hc : Tok n c) : Sz (3 * n + 3) (det a b c) := by
  unfold det
  have m1 := ha.x.mul ((hb.y.mul hc.w).sub (hc.y.mul hb.w))
  have m2 := ha.y.mul ((hb.x.mul hc.w).sub (hc.x.mul hb.w))
  have m3 := ha.w.mul ((hb.x.mul hc.y).sub (hc.x.mul hb.y))
  exact ((m1.sub m2).add m3).up (by omega)
theorem turnof_ok {n : Nat} {a b c : T3} {h : MH} (ha : Tok n a) (hb : Tok n b) (hc : Tok n c) (l : n ≤ 1000) : F_turn_of [trv a, trv b, trv c] h = .ok (.int (sgR (cr (toPt a) (toPt b) (toPt c)))) h := by
  rw [← det_cr ha.p hb.p hc.p]
  have ha := ha.up l
  have hb := hb.up l
  have hc := hc.up l
  unfold F_turn_of b_turn_of
  rw [bodyF_at]
  simp [trv, mul_M hb.y hc.w, mul_M hc.y hb.w, mul_M hb.x hc.w, mul_M hc.x hb.w, mul_M hb.x hc.y, mul_M hc.x hb.y, mul_M ha.x ((hb.y.mul hc.w).sub (hc.y.mul hb.w)), mul_M ha.y ((hb.x.mul hc.w).sub (hc.x.mul hb.w)), mul_M ha.w ((hb.x.mul hc.y).sub (hc.x.mul hb.y)), sign_ok]
  rfl
theorem lawdet_ok {n : Nat} {a b c : T3} {h : MH} (ha : Tok n a) (hb : Tok n b) (hc : Tok n c) (l : n ≤ 1000) : F__law_det [trv a, trv b, trv c] h = .ok (.int (sgR (cr (toPt a) (toPt b) (toPt c)))) h := by
  rw [← det_cr ha.p hb.p hc.p]
  have ha := ha.up l
  have hb := hb.up l
  have hc := hc.up l
  unfold F__law_det b__law_det
  rw [bodyF_at]
  simp [trv, mul_M hb.y hc.w, mul_M hc.y hb.w, mul_M hb.x hc.w, mul_M hc.x hb.w, mul_M hb.x hc.y, mul_M hc.x hb.y, mul_M ha.x ((hb.y.mul hc.w).sub (hc.y.mul hb.w)), mul_M ha.y ((hb.x.mul hc.w).sub (hc.x.mul hb.w)), mul_M ha.w ((hb.x.mul hc.y).sub (hc.x.mul hb.y))]
  show endFl (bindFl (if det a b c = 0 then Res.ok (MV.int 0) h else if 0 < det a b c then Res.ok (MV.int 1) h else Res.ok (MV.int (-1)) h) _ _) = Res.ok (.int (sgI (det a b c))) h
  generalize det a b c = d
  unfold sgI
  by_cases c1 : d = 0
  · subst c1
    rfl
  · rw [if_neg c1]
    by_cases c2 : 0 < d
    · rw [if_pos c2, if_pos c2]
      rfl
    · rw [if_neg c2, if_neg c2, if_pos (by omega)]
      rfl
theorem pt_eq {a b : T3} (ha : 0 < a.2.2) (hb : 0 < b.2.2) : (a.1 * b.2.2 = b.1 * a.2.2 ∧ a.2.1 * b.2.2 = b.2.1 * a.2.2) ↔ toPt a = toPt b := by
  rw [eq_cross ha hb, eq_cross ha hb]
  unfold toPt
  exact ⟨fun h => Prod.ext h.1 h.2, fun h => ⟨congrArg Prod.fst h, congrArg Prod.snd h⟩⟩
theorem same_ok {n : Nat} {a b : T3} {h : MH} (ha : Tok n a) (hb : Tok n b) (l : n ≤ 1000) : F_is_same [trv a, trv b] h = .ok (.bl (decide (toPt a = toPt b))) h := by
  have pe := pt_eq ha.p hb.p
  have ha := ha.up l
  have hb := hb.up l
  unfold F_is_same b_is_same
  rw [bodyF_at]
  simp [trv, mul_M ha.x hb.w, mul_M hb.x ha.w, mul_M ha.y hb.w, mul_M hb.y ha.w]
  by_cases c1 : a.1 * b.2.2 = b.1 * a.2.2
  · simp [c1, ← pe]
    rfl
  · simp [c1, ← pe]
theorem lsame_ok {n : Nat} {a b : T3} {h : MH} (ha : Tok n a) (hb : Tok n b) (l : n ≤ 1000) : F__law_same [trv a, trv b] h = .ok (.bl (decide (toPt a = toPt b))) h := by
  have pe := pt_eq ha.p hb.p
  have ha := ha.up l
  have hb := hb.up l
  unfold F__law_same b__law_same
  rw [bodyF_at]
  simp [trv, mul_M ha.x hb.w, mul_M hb.x ha.w, mul_M ha.y hb.w, mul_M hb.y ha.w]
  by_cases c1 : a.1 * b.2.2 = b.1 * a.2.2
  · simp [c1, ← pe]
    rfl
  · simp [c1, ← pe]
end K84
end P_Q6
section P_N1
set_option Elab.async false
set_option linter.all false
set_option maxRecDepth 100000
set_option maxHeartbeats 4000000
namespace K84
/-! rooms as rings of corners: what stays under turns, mirrors, moves -/
theorem cr_cyc (a b c : Pt) : cr b c a = cr a b c := by unfold cr; grind
theorem cr_swap (a b c : Pt) : cr b a c = -cr a b c := by unfold cr; grind
theorem cr_aab (a b : Pt) : cr a a b = 0 := by unfold cr; grind
theorem cr_aba (a b : Pt) : cr a b a = 0 := by unfold cr; grind
theorem cr_abb (a b : Pt) : cr a b b = 0 := by unfold cr; grind
theorem within_swap (a m b : Rat) : withinQ b m a = withinQ a m b := by
  unfold withinQ
  rw [Bool.and_comm (decide (m < b)), Bool.and_comm (decide (b < m))]
theorem on_swap (p a b : Pt) : onQ p b a = onQ p a b := by
  unfold onQ
  rw [within_swap a.1, within_swap a.2, cr_swap]
  congr 1
  by_cases c : cr a b p = 0
  · simp [c]
  · have : -cr a b p ≠ 0 := by grind
    simp [c, this]
theorem within_end (a b : Rat) : withinQ a a b = true := by
  unfold withinQ
  have : ¬ a < a := Rat.not_lt.mpr Rat.le_refl
  simp [this]
theorem on_end (a b : Pt) : onQ a a b = true := by
  unfold onQ
  rw [cr_aba, within_end, within_end]
  simp
theorem sgR_neg (q : Rat) : sgR (-q) = -sgR q := by
  unfold sgR
  have h1 : 0 < -q ↔ q < 0 := by grind
  have h2 : -q < 0 ↔ 0 < q := by grind
  simp only [h1, h2]
  by_cases c1 : 0 < q
  · have : ¬ q < 0 := by grind
    simp [c1, this]
  · by_cases c2 : q < 0 <;> simp [c1, c2]
theorem meet_comm (a b c d : Pt) : meetQ c d a b = meetQ a b c d := by
  unfold meetQ
  generalize onQ a c d = o1
  generalize onQ b c d = o2
  generalize onQ c a b = o3
  generalize onQ d a b = o4
  generalize decide (sgR (cr a b c) * sgR (cr a b d) < 0) = d1
  generalize decide (sgR (cr c d a) * sgR (cr c d b) < 0) = d2
  cases o1 <;> cases o2 <;> cases o3 <;> cases o4 <;> cases d1 <;> cases d2 <;> rfl
theorem meet_swap (a b c d : Pt) : meetQ b a d c = meetQ a b c d := by
  unfold meetQ
  rw [on_swap b c d, on_swap a c d, on_swap d a b, on_swap c a b, cr_swap a b d, cr_swap a b c, cr_swap c d b, cr_swap c d a, sgR_neg, sgR_neg, sgR_neg, sgR_neg, Int.neg_mul_neg, Int.neg_mul_neg, Int.mul_comm (sgR (cr a b d)), Int.mul_comm (sgR (cr c d b))]
  generalize onQ a c d = o1
  generalize onQ b c d = o2
  generalize onQ c a b = o3
  generalize onQ d a b = o4
  generalize decide (sgR (cr a b c) * sgR (cr a b d) < 0) = d1
  generalize decide (sgR (cr c d a) * sgR (cr c d b) < 0) = d2
  cases o1 <;> cases o2 <;> cases o3 <;> cases o4 <;> cases d1 <;> cases d2 <;> rfl
def Cy (cs : List Pt) (i : Nat) : Pt := nth cs (i % cs.length)
theorem Cy_mod (cs : List Pt) (i : Nat) : Cy cs (i % cs.length) = Cy cs i := by
  unfold Cy
  rw [Nat.mod_mod]
theorem Cy_add (cs : List Pt) (i j : Nat) (h : i % cs.length = j % cs.length) : Cy cs i = Cy cs j := by
  unfold Cy
  rw [h]
structure Good (cs : List Pt) : Prop where
  l3 : 3 ≤ cs.length
  st : ∀ i, cr (Cy cs i) (Cy cs (i + 1)) (Cy cs (i + 2)) ≠ 0
  me : ∀ i j, i % cs.length ≠ j % cs.length → (i + 1) % cs.length ≠ j % cs.length → (j + 1) % cs.length ≠ i % cs.length → meetQ (Cy cs i) (Cy cs (i + 1)) (Cy cs j) (Cy cs (j + 1)) = false
theorem sgR_mul2 (k p q : Rat) (hk : k ≠ 0) : sgR (k * p) * sgR (k * q) = sgR p * sgR q := by
  have pos : ∀ k p : Rat, 0 < k → sgR (k * p) = sgR p := by
    intro k p hk
    unfold sgR
    have h1 : 0 < k * p ↔ 0 < p := Rat.mul_pos_iff_of_pos_left hk
    have h2 : k * p < 0 ↔ p < 0 := Rat.mul_neg_iff_of_pos_left hk
    simp only [h1, h2]
  by_cases c : 0 < k
  · rw [pos k p c, pos k q c]
  · have c2 : 0 < -k := by grind
    have e1 : k * p = -(-k * p) := by grind
    have e2 : k * q = -(-k * q) := by grind
    rw [e1, e2, sgR_neg, sgR_neg, pos _ _ c2, pos _ _ c2, Int.neg_mul_neg]
/-- a map of the plane that keeps what lies on what -/
structure Keep (T : Pt → Pt) (k : Rat) : Prop where
  k0 : k ≠ 0
  cr : ∀ a b c, cr (T a) (T b) (T c) = k * cr a b c
  on : ∀ p a b, onQ (T p) (T a) (T b) = onQ p a b
theorem Keep.meet {T : Pt → Pt} {k : Rat} (K : Keep T k) (a b c d : Pt) : meetQ (T a) (T b) (T c) (T d) = meetQ a b c d := by
  unfold meetQ
  rw [K.on, K.on, K.on, K.on, K.cr, K.cr, K.cr, K.cr, sgR_mul2 _ _ _ K.k0, sgR_mul2 _ _ _ K.k0]
theorem nth_map (T : Pt → Pt) {cs : List Pt} {i : Nat} (h : i < cs.length) : nth (cs.map T) i = T (nth cs i) := by
  have e := nth_get (cs := cs.map T) (i := i) (by rw [List.length_map]; exact h)
  rw [List.getElem?_map, nth_get h] at e
  exact (Option.some.inj e).symm
theorem Cy_map (T : Pt → Pt) {cs : List Pt} (h : 0 < cs.length) (i : Nat) : Cy (cs.map T) i = T (Cy cs i) := by
  unfold Cy
  rw [List.length_map, nth_map T (Nat.mod_lt _ h)]
theorem Good.map {T : Pt → Pt} {k : Rat} (K : Keep T k) {cs : List Pt} (G : Good cs) : Good (cs.map T) := by
  have h0 : 0 < cs.length := by have := G.l3; omega
  refine ⟨by rw [List.length_map]; exact G.l3, ?_, ?_⟩
  · intro i
    rw [Cy_map T h0, Cy_map T h0, Cy_map T h0, K.cr]
    have := G.st i
    intro h
    rcases Rat.mul_eq_zero.mp h with z | z
    · exact K.k0 z
    · exact this z
  · intro i j
    rw [List.length_map]
    intro h1 h2 h3
    rw [Cy_map T h0, Cy_map T h0, Cy_map T h0, Cy_map T h0, K.meet]
    exact G.me i j h1 h2 h3
theorem nth_rot {cs : List Pt} {k i : Nat} (hk : k ≤ cs.length) (h : i < cs.length) : nth (cs.drop k ++ cs.take k) i = nth cs ((i + k) % cs.length) := by
  have e := nth_get (cs := cs.drop k ++ cs.take k) (i := i) (by rw [List.length_append, List.length_drop, List.length_take]; omega)
  refine (Option.some.inj ?_)
  rw [← e, ← nth_get (Nat.mod_lt _ (by omega))]
  by_cases c : i < cs.length - k
  · rw [List.getElem?_append_left (by rw [List.length_drop]; exact c), List.getElem?_drop, Nat.mod_eq_of_lt (by omega), Nat.add_comm]
  · rw [List.getElem?_append_right (by rw [List.length_drop]; omega), List.length_drop, List.getElem?_take_of_lt (by omega)]
    have : (i + k) % cs.length = i - (cs.length - k) := by
      rw [Nat.mod_eq_sub_mod (by omega), Nat.mod_eq_of_lt (by omega)]
      omega
    rw [this]
theorem rot_length {cs : List Pt} {k : Nat} (hk : k ≤ cs.length) : (cs.drop k ++ cs.take k).length = cs.length := by
  rw [List.length_append, List.length_drop, List.length_take]
  omega
theorem Cy_rot {cs : List Pt} {k : Nat} (h0 : 0 < cs.length) (hk : k ≤ cs.length) (i : Nat) : Cy (cs.drop k ++ cs.take k) i = Cy cs (i + k) := by
  unfold Cy
  rw [rot_length hk, nth_rot hk (Nat.mod_lt _ h0), Nat.mod_add_mod]
theorem mod_shift {n i j k : Nat} : (i + k) % n = (j + k) % n ↔ i % n = j % n := by
  constructor
  · intro h
    by_cases hn : n = 0
    · subst hn
      simp at h ⊢
      omega
    have e : ∀ a : Nat, (a + k + (n - k % n)) % n = a % n := by
      intro a
      have hlt := Nat.mod_lt k (by omega : 0 < n)
      have : a + k + (n - k % n) = a + (k / n + 1) * n := by
        have := Nat.div_add_mod k n
        have h3 : n * (k / n) = k / n * n := Nat.mul_comm _ _
        rw [Nat.succ_mul]
        omega
      rw [this, Nat.add_mul_mod_self_right]
    rw [← e i, ← e j, Nat.add_mod (i + k), h, ← Nat.add_mod]
  · intro h
    rw [Nat.add_mod i, h, ← Nat.add_mod]
theorem Good.rot {cs : List Pt} (G : Good cs) {k : Nat} (hk : k ≤ cs.length) : Good (cs.drop k ++ cs.take k) := by
  have h0 : 0 < cs.length := by have := G.l3; omega
  refine ⟨by rw [rot_length hk]; exact G.l3, ?_, ?_⟩
  · intro i
    rw [Cy_rot h0 hk, Cy_rot h0 hk, Cy_rot h0 hk]
    have := G.st (i + k)
    rwa [show i + k + 1 = i + 1 + k by omega, show i + k + 2 = i + 2 + k by omega] at this
  · intro i j
    rw [rot_length hk]
    intro h1 h2 h3
    rw [Cy_rot h0 hk, Cy_rot h0 hk, Cy_rot h0 hk, Cy_rot h0 hk]
    have := G.me (i + k) (j + k) (fun h => h1 (mod_shift.mp h)) (fun h => h2 (mod_shift (k := k).mp (by rw [show i + 1 + k = i + k + 1 by omega]; exact h))) (fun h => h3 (mod_shift (k := k).mp (by rw [show j + 1 + k = j + k + 1 by omega]; exact h)))
    rwa [show i + k + 1 = i + 1 + k by omega, show j + k + 1 = j + 1 + k by omega] at this
theorem nth_rev {cs : List Pt} {i : Nat} (h : i < cs.length) : nth cs.reverse i = nth cs (cs.length - 1 - i) := by
  have e := nth_get (cs := cs.reverse) (i := i) (by rw [List.length_reverse]; exact h)
  refine (Option.some.inj ?_)
  rw [← e, ← nth_get (by omega), List.getElem?_reverse h]
/-- the place in a ring told backwards -/
theorem Cy_rev {cs : List Pt} (h0 : 0 < cs.length) {i j : Nat} (h : (i + j + 1) % cs.length = 0) : Cy cs.reverse i = Cy cs j := by
  unfold Cy
  rw [List.length_reverse, nth_rev (Nat.mod_lt _ h0)]
  have hi := Nat.mod_lt i h0
  have hj := Nat.mod_lt j h0
  have e : (i % cs.length + j % cs.length + 1) % cs.length = 0 := by
    rw [← h, Nat.add_mod (i % cs.length + j % cs.length), ← Nat.add_mod i j, ← Nat.add_mod]
  have e2 : i % cs.length + j % cs.length + 1 = cs.length := by
    by_cases c : i % cs.length + j % cs.length + 1 < cs.length
    · rw [Nat.mod_eq_of_lt c] at e
      omega
    · rw [Nat.mod_eq_sub_mod (by omega), Nat.mod_eq_of_lt (by omega)] at e
      omega
  congr 1
  omega
theorem rev_idx (n i : Nat) (h : 0 < n) : ∃ j, 2 ≤ j ∧ (i + j + 1) % n = 0 := by
  refine ⟨(i + 3) * n - (i + 1), ?_, ?_⟩
  · have : (i + 3) * 1 ≤ (i + 3) * n := Nat.mul_le_mul_left _ h
    omega
  · have : (i + 3) * 1 ≤ (i + 3) * n := Nat.mul_le_mul_left _ h
    have e : i + ((i + 3) * n - (i + 1)) + 1 = (i + 3) * n := by omega
    rw [e, Nat.mul_mod_left]
theorem Good.rev {cs : List Pt} (G : Good cs) : Good cs.reverse := by
  have h0 : 0 < cs.length := by have := G.l3; omega
  refine ⟨by rw [List.length_reverse]; exact G.l3, ?_, ?_⟩
  · intro i
    obtain ⟨j, hj, e⟩ := rev_idx cs.length i h0
    rw [Cy_rev h0 e, Cy_rev (i := i + 1) (j := j - 1) h0 (by rw [← e]; congr 1; omega), Cy_rev (i := i + 2) (j := j - 2) h0 (by rw [← e]; congr 1; omega)]
    have := G.st (j - 2)
    rw [show j - 2 + 1 = j - 1 by omega, show j - 2 + 2 = j by omega] at this
    intro h
    apply this
    rw [← cr_cyc, cr_swap, cr_cyc, ← cr_cyc] at h
    grind
  · intro i j
    rw [List.length_reverse]
    intro h1 h2 h3
    obtain ⟨i', hi, ei⟩ := rev_idx cs.length i h0
    obtain ⟨j', hj, ej⟩ := rev_idx cs.length j h0
    rw [Cy_rev h0 ei, Cy_rev (i := i + 1) (j := i' - 1) h0 (by rw [← ei]; congr 1; omega), Cy_rev h0 ej, Cy_rev (i := j + 1) (j := j' - 1) h0 (by rw [← ej]; congr 1; omega)]
    rw [← meet_swap]
    have key : ∀ a b : Nat, (a + i') % cs.length = 0 → True := fun _ _ _ => trivial
    have inv : ∀ x y x' y' : Nat, (x + x') % cs.length = 0 → (y + y') % cs.length = 0 → x' % cs.length = y' % cs.length → x % cs.length = y % cs.length := by
      intro x y x' y' hx hy h
      have : (x + x') % cs.length = (y + x') % cs.length := by
        rw [hx, Nat.add_mod, h, ← Nat.add_mod, hy]
      exact mod_shift.mp this
    have m := G.me (i' - 1) (j' - 1) (fun h => h1 (inv i j (i' + 1) (j' + 1) (by rw [← ei]; rfl) (by rw [← ej]; rfl) (by
        rw [show i' + 1 = i' - 1 + 2 by omega, show j' + 1 = j' - 1 + 2 by omega]
        exact mod_shift.mpr h))) (fun h => h3 (inv (j + 1) i j' (i' + 1) (by rw [← ej]; congr 1; omega) (by rw [← ei]; rfl) (by
        rw [show i' + 1 = i' - 1 + 1 + 1 by omega, show j' = j' - 1 + 1 by omega]
        exact (mod_shift.mpr h).symm))) (fun h => h2 (inv (i + 1) j i' (j' + 1) (by rw [← ei]; congr 1; omega) (by rw [← ej]; rfl) (by
        rw [show j' + 1 = j' - 1 + 1 + 1 by omega, show i' = i' - 1 + 1 by omega]
        exact (mod_shift.mpr h).symm)))
    rw [show i' - 1 + 1 = i' by omega, show j' - 1 + 1 = j' by omega] at m
    exact m
end K84
end P_N1
section P_N2
set_option Elab.async false
set_option linter.all false
set_option maxRecDepth 100000
set_option maxHeartbeats 4000000
namespace K84
/-! where a point lies -/
inductive Wd where | corner | wall | inside | outside
  deriving DecidableEq
def flipQ (a b p : Pt) : Bool := (decide (p.2 < a.2) != decide (p.2 < b.2)) && (decide (0 < cr a b p) == decide (p.2 < b.2))
def whereL (p : Pt) : List (Pt × Pt) → Bool → Wd
  | [], b => if b then .inside else .outside
  | w :: r, b => if p = w.1 then .corner else if p ≠ w.2 ∧ onQ p w.1 w.2 = true then .wall else whereL p r (b != flipQ w.1 w.2 p)
def passQ (p : Pt) (w : Pt × Pt) : Bool :=
  let low := if w.1.2 < w.2.2 then w.1 else w.2
  let high := if w.1.2 < w.2.2 then w.2 else w.1
  !(decide (p.2 < low.2)) && (decide (p.2 < high.2) && decide (0 < cr low high p))
def whereT (cs : List Pt) (p : Pt) : Wd := if p ∈ cs then .corner else if (walls cs).any (fun w => onQ p w.1 w.2) then .wall else if ((walls cs).filter (passQ p)).length % 2 = 1 then .inside else .outside
theorem within_of {a m b : Rat} (h : a ≤ m ∧ m ≤ b ∨ b ≤ m ∧ m ≤ a) : withinQ a m b = true := by
  unfold withinQ
  by_cases c1 : m < a <;> by_cases c2 : m < b <;> by_cases c3 : a < m <;> by_cases c4 : b < m <;> simp [c1, c2, c3, c4] <;> grind
/-- on the line of a wall, at a height of it: on it -/
theorem on_strip {a b p : Pt} (h : cr a b p = 0) (l : b.2 ≤ p.2 ∧ p.2 < a.2 ∨ a.2 ≤ p.2 ∧ p.2 < b.2) : onQ p a b = true := by
  unfold onQ
  have w2 : withinQ a.2 p.2 b.2 = true := within_of (by grind)
  have w1 : withinQ a.1 p.1 b.1 = true := by
    apply within_of
    unfold cr at h
    -- (b1-a1)(p2-a2) = (b2-a2)(p1-a1)
    by_cases c : a.1 ≤ b.1
    · left
      rcases l with ⟨l1, l2⟩ | ⟨l1, l2⟩
      · have n1 : (b.1 - a.1) * (a.2 - p.2) ≥ 0 := Rat.mul_nonneg (by grind) (by grind)
        have n2 : (b.1 - a.1) * (p.2 - b.2) ≥ 0 := Rat.mul_nonneg (by grind) (by grind)
        have d : 0 < a.2 - b.2 := by grind
        constructor
        · refine Rat.not_lt.mp fun k => ?_
          have : 0 < (a.2 - b.2) * (a.1 - p.1) := Rat.mul_pos d (by grind)
          grind
        · refine Rat.not_lt.mp fun k => ?_
          have : 0 < (a.2 - b.2) * (p.1 - b.1) := Rat.mul_pos d (by grind)
          grind
      · have n1 : (b.1 - a.1) * (p.2 - a.2) ≥ 0 := Rat.mul_nonneg (by grind) (by grind)
        have n2 : (b.1 - a.1) * (b.2 - p.2) ≥ 0 := Rat.mul_nonneg (by grind) (by grind)
        have d : 0 < b.2 - a.2 := by grind
        constructor
        · refine Rat.not_lt.mp fun k => ?_
          have : 0 < (b.2 - a.2) * (a.1 - p.1) := Rat.mul_pos d (by grind)
          grind
        · refine Rat.not_lt.mp fun k => ?_
          have : 0 < (b.2 - a.2) * (p.1 - b.1) := Rat.mul_pos d (by grind)
          grind
    · right
      rcases l with ⟨l1, l2⟩ | ⟨l1, l2⟩
      · have n1 : (a.1 - b.1) * (a.2 - p.2) ≥ 0 := Rat.mul_nonneg (by grind) (by grind)
        have n2 : (a.1 - b.1) * (p.2 - b.2) ≥ 0 := Rat.mul_nonneg (by grind) (by grind)
        have d : 0 < a.2 - b.2 := by grind
        constructor
        · refine Rat.not_lt.mp fun k => ?_
          have : 0 < (a.2 - b.2) * (b.1 - p.1) := Rat.mul_pos d (by grind)
          grind
        · refine Rat.not_lt.mp fun k => ?_
          have : 0 < (a.2 - b.2) * (p.1 - a.1) := Rat.mul_pos d (by grind)
          grind
      · have n1 : (a.1 - b.1) * (p.2 - a.2) ≥ 0 := Rat.mul_nonneg (by grind) (by grind)
        have n2 : (a.1 - b.1) * (b.2 - p.2) ≥ 0 := Rat.mul_nonneg (by grind) (by grind)
        have d : 0 < b.2 - a.2 := by grind
        constructor
        · refine Rat.not_lt.mp fun k => ?_
          have : 0 < (b.2 - a.2) * (b.1 - p.1) := Rat.mul_pos d (by grind)
          grind
        · refine Rat.not_lt.mp fun k => ?_
          have : 0 < (b.2 - a.2) * (p.1 - a.1) := Rat.mul_pos d (by grind)
          grind
  simp [h, w1, w2]
theorem flip_pass {a b p : Pt} (h : onQ p a b = false) : flipQ a b p = passQ p (a, b) := by
  unfold flipQ passQ
  by_cases c : a.2 < b.2
  · simp only [c, if_true]
    by_cases c1 : p.2 < a.2
    · have c2 : p.2 < b.2 := by grind
      simp [c1, c2]
    · by_cases c2 : p.2 < b.2
      · simp [c1, c2]
      · simp [c1, c2]
  · simp only [c, if_false]
    by_cases c2 : p.2 < b.2
    · have c1 : p.2 < a.2 := by grind
      simp [c1, c2]
    · by_cases c1 : p.2 < a.2
      · have z : cr a b p ≠ 0 := by
          intro z
          rw [on_strip z (.inl ⟨Rat.not_lt.mp c2, c1⟩)] at h
          cases h
        have e : cr b a p = -cr a b p := cr_swap a b p
        simp only [c1, c2, decide_true, decide_false, e]
        by_cases d : 0 < cr a b p
        · have d2 : ¬ 0 < -cr a b p := by grind
          simp [d, d2]
        · have d2 : 0 < -cr a b p := by grind
          simp [d, d2]
      · simp [c1, c2]
theorem where_none {p : Pt} : ∀ {ws : List (Pt × Pt)} {b : Bool}, (∀ w ∈ ws, p ≠ w.1) → (∀ w ∈ ws, onQ p w.1 w.2 = false) → whereL p ws b = if (b != decide ((ws.filter (passQ p)).length % 2 = 1)) then .inside else .outside
  | [], b, _, _ => by simp [whereL]
  | w :: r, b, h1, h2 => by
    unfold whereL
    have e1 := h1 w List.mem_cons_self
    have e2 := h2 w List.mem_cons_self
    rw [if_neg e1, if_neg (by rw [e2]; simp), where_none (fun w hw => h1 w (List.mem_cons_of_mem _ hw)) (fun w hw => h2 w (List.mem_cons_of_mem _ hw)), flip_pass e2]
    rw [List.filter_cons]
    cases q : passQ p w with
    | false => simp
    | true =>
      simp only [if_true, List.length_cons]
      generalize (List.filter (passQ p) r).length = m
      have : decide ((m + 1) % 2 = 1) = !decide (m % 2 = 1) := by
        by_cases z : m % 2 = 1
        · have : ¬ (m + 1) % 2 = 1 := by omega
          simp [z, this]
        · have : (m + 1) % 2 = 1 := by omega
          simp [z, this]
      rw [this]
      cases b <;> cases decide (m % 2 = 1) <;> rfl
theorem where_wall {p : Pt} : ∀ {ws : List (Pt × Pt)} {b : Bool}, (∀ w ∈ ws, p ≠ w.1 ∧ p ≠ w.2) → (∃ w ∈ ws, onQ p w.1 w.2 = true) → whereL p ws b = .wall
  | [], b, _, h => by obtain ⟨w, h, _⟩ := h; cases h
  | w :: r, b, h1, h2 => by
    unfold whereL
    have e1 := h1 w List.mem_cons_self
    rw [if_neg e1.1]
    by_cases c : onQ p w.1 w.2 = true
    · rw [if_pos ⟨e1.2, c⟩]
    · rw [if_neg (fun h => c h.2)]
      refine where_wall (fun w hw => h1 w (List.mem_cons_of_mem _ hw)) ?_
      obtain ⟨x, hx, e⟩ := h2
      rcases List.mem_cons.mp hx with rfl | hx
      · exact absurd e c
      · exact ⟨x, hx, e⟩
theorem where_corner {p : Pt} : ∀ {ws : List (Pt × Pt)} {b : Bool}, (∃ w ∈ ws, p = w.1) → (∀ w ∈ ws, p ≠ w.1 → p ≠ w.2 → onQ p w.1 w.2 = false) → whereL p ws b = .corner
  | [], b, h, _ => by obtain ⟨w, h, _⟩ := h; cases h
  | w :: r, b, h1, h2 => by
    unfold whereL
    by_cases c : p = w.1
    · rw [if_pos c]
    · rw [if_neg c, if_neg (by
        intro h
        have := h2 w List.mem_cons_self c h.1
        rw [h.2] at this
        cases this)]
      refine where_corner ?_ (fun w hw => h2 w (List.mem_cons_of_mem _ hw))
      obtain ⟨x, hx, e⟩ := h1
      rcases List.mem_cons.mp hx with rfl | hx
      · exact absurd e c
      · exact ⟨x, hx, e⟩
theorem mem_walls {cs : List Pt} {w : Pt × Pt} (h : w ∈ walls cs) : ∃ i, i < cs.length ∧ w = (nth cs i, nth cs ((i + 1) % cs.length)) := by
  obtain ⟨i, hi, e⟩ := List.mem_iff_getElem.mp h
  rw [walls_len] at hi
  refine ⟨i, hi, ?_⟩
  have := walls_get hi
  rw [List.getElem?_eq_getElem (by rw [walls_len]; exact hi)] at this
  rw [← e]
  exact Option.some.inj this
theorem walls_mem {cs : List Pt} {i : Nat} (h : i < cs.length) : (nth cs i, nth cs ((i + 1) % cs.length)) ∈ walls cs := List.mem_of_getElem? (walls_get h)
theorem mem_nth {cs : List Pt} {p : Pt} (h : p ∈ cs) : ∃ i, i < cs.length ∧ p = nth cs i := by
  obtain ⟨i, hi, e⟩ := List.mem_iff_getElem.mp h
  refine ⟨i, hi, ?_⟩
  have := nth_get hi
  rw [List.getElem?_eq_getElem hi] at this
  rw [← e]
  exact Option.some.inj this
theorem Cy_nth {cs : List Pt} {i : Nat} (h : i < cs.length) : Cy cs i = nth cs i := by
  unfold Cy
  rw [Nat.mod_eq_of_lt h]
/-- a corner lies on no wall but its own two -/
theorem Good.corner {cs : List Pt} (G : Good cs) {i j : Nat} (h1 : Cy cs j ≠ Cy cs i) (h2 : Cy cs j ≠ Cy cs (i + 1)) : onQ (Cy cs j) (Cy cs i) (Cy cs (i + 1)) = false := by
  have h0 : 0 < cs.length := by have := G.l3; omega
  have n1 : i % cs.length ≠ j % cs.length := fun h => h1 (Cy_add cs _ _ h.symm)
  have n2 : (i + 1) % cs.length ≠ j % cs.length := fun h => h2 (Cy_add cs _ _ h.symm)
  by_cases c : (j + 1) % cs.length = i % cs.length
  · have e1 : Cy cs i = Cy cs (j + 1) := Cy_add cs _ _ c.symm
    have e2 : Cy cs (i + 1) = Cy cs (j + 2) := Cy_add cs _ _ (mod_shift (k := 1).mpr c.symm)
    have s := G.st j
    unfold onQ
    rw [e1, e2, cr_cyc (Cy cs j)]
    simp [s]
  · have m := G.me i j n1 n2 c
    unfold meetQ at m
    simp only [Bool.or_eq_false_iff] at m
    exact m.2.2.1
theorem where_same {cs : List Pt} (G : Good cs) (p : Pt) : whereL p (walls cs) false = whereT cs p := by
  have h0 : 0 < cs.length := by have := G.l3; omega
  unfold whereT
  by_cases c : p ∈ cs
  · rw [if_pos c]
    obtain ⟨j, hj, rfl⟩ := mem_nth c
    refine where_corner ⟨_, walls_mem hj, rfl⟩ ?_
    intro w hw k1 k2
    obtain ⟨i, hi, rfl⟩ := mem_walls hw
    have := G.corner (i := i) (j := j)
    rw [Cy_nth hi, Cy_nth hj] at this
    exact this k1 k2
  · rw [if_neg c]
    have out : ∀ w ∈ walls cs, p ≠ w.1 ∧ p ≠ w.2 := by
      intro w hw
      obtain ⟨i, hi, rfl⟩ := mem_walls hw
      exact ⟨fun h => c (h ▸ nth_mem hi), fun h => c (h ▸ nth_mem (Nat.mod_lt _ h0))⟩
    by_cases d : (walls cs).any (fun w => onQ p w.1 w.2) = true
    · rw [if_pos d]
      refine where_wall out ?_
      obtain ⟨w, hw, e⟩ := List.any_eq_true.mp d
      exact ⟨w, hw, e⟩
    · rw [if_neg d, where_none (fun w hw => (out w hw).1) (fun w hw => by
        cases q : onQ p w.1 w.2 with
        | false => rfl
        | true => exact absurd (List.any_eq_true.mpr ⟨w, hw, q⟩) d)]
      by_cases z : ((walls cs).filter (passQ p)).length % 2 = 1
      · simp [z]
      · simp [z]
/-! moved rooms -/
theorem walls_map (T : Pt → Pt) (cs : List Pt) : walls (cs.map T) = (walls cs).map fun w => (T w.1, T w.2) := by
  unfold walls
  rw [← List.map_tail, ← List.map_take, ← List.map_append, List.zip_map]
  rfl
def mv (v : Pt) (p : Pt) : Pt := (p.1 + v.1, p.2 + v.2)
theorem cr_mv (v a b c : Pt) : cr (mv v a) (mv v b) (mv v c) = cr a b c := by unfold cr mv; grind
theorem lt_mv (x y k : Rat) : (x + k < y + k) = (x < y) := propext (by grind)
theorem within_mv (a m b k : Rat) : withinQ (a + k) (m + k) (b + k) = withinQ a m b := by
  unfold withinQ
  simp only [lt_mv]
theorem on_mv (v p a b : Pt) : onQ (mv v p) (mv v a) (mv v b) = onQ p a b := by
  unfold onQ
  rw [cr_mv]
  unfold mv
  rw [within_mv, within_mv]
theorem mv_keep (v : Pt) : Keep (mv v) 1 := ⟨by decide, fun a b c => by rw [cr_mv]; grind, fun p a b => on_mv v p a b⟩
theorem mv_eq (v a b : Pt) : mv v a = mv v b ↔ a = b := by
  constructor
  · intro h
    have h1 := congrArg Prod.fst h
    have h2 := congrArg Prod.snd h
    unfold mv at h1 h2
    exact Prod.ext (by grind) (by grind)
  · exact fun h => h ▸ rfl
theorem whereL_mv (v p : Pt) : ∀ (ws : List (Pt × Pt)) (b : Bool), whereL (mv v p) (ws.map fun w => (mv v w.1, mv v w.2)) b = whereL p ws b
  | [], b => rfl
  | w :: r, b => by
    rw [List.map_cons]
    unfold whereL
    have f : flipQ (mv v w.1) (mv v w.2) (mv v p) = flipQ w.1 w.2 p := by
      unfold flipQ
      rw [cr_mv]
      unfold mv
      simp only [lt_mv]
    rw [f, on_mv, whereL_mv v p r]
    simp only [mv_eq, ne_eq]
theorem where_mv (v p : Pt) (cs : List Pt) : whereL (mv v p) (walls (cs.map (mv v))) false = whereL p (walls cs) false := by
  rw [walls_map, whereL_mv]
/-! a good ring's parts -/
theorem Good.straight {cs : List Pt} (G : Good cs) : noStraight cs := by
  intro i hi
  have h3 := G.l3
  have s := G.st (i + (cs.length - 1))
  have e1 : Cy cs (i + (cs.length - 1)) = nth cs (prevI cs.length i) := by
    unfold Cy prevI
    by_cases c : i = 0
    · subst c
      rw [if_pos rfl, Nat.mod_eq_of_lt (by omega), Nat.zero_add]
    · rw [if_neg c, Nat.mod_eq_sub_mod (by omega), Nat.mod_eq_of_lt (by omega)]
      congr 1
      omega
  have e2 : Cy cs (i + (cs.length - 1) + 1) = nth cs i := by
    rw [show i + (cs.length - 1) + 1 = i + cs.length by omega]
    unfold Cy
    rw [Nat.add_mod_right, Nat.mod_eq_of_lt hi]
  have e3 : Cy cs (i + (cs.length - 1) + 2) = nth cs ((i + 1) % cs.length) := by
    rw [show i + (cs.length - 1) + 2 = i + 1 + cs.length by omega]
    unfold Cy
    rw [Nat.add_mod_right]
  rw [e1, e2, e3] at s
  exact s
theorem Good.noMeet {cs : List Pt} (G : Good cs) : noMeet cs := by
  intro i j h1 h2 h3
  have m := G.me i j (by rw [Nat.mod_eq_of_lt h2, Nat.mod_eq_of_lt (by omega)]; omega) (by rw [Nat.mod_eq_of_lt h2, Nat.mod_eq_of_lt (by omega)]; omega) (by
    rw [Nat.mod_eq_of_lt (by omega : i < _)]
    by_cases c : j + 1 < cs.length
    · rw [Nat.mod_eq_of_lt c]; omega
    · have : j + 1 = cs.length := by omega
      rw [this, Nat.mod_self]
      omega)
  rw [Cy_nth h2, Cy_nth (by omega : i < _)] at m
  exact m
theorem Good.nodup {cs : List Pt} (G : Good cs) : cs.Nodup := by
  have h0 : 0 < cs.length := by have := G.l3; omega
  have key : ∀ i j, i < j → j < cs.length → Cy cs i ≠ Cy cs j := by
    intro i j hij hj e
    by_cases c1 : j = i + 1
    · subst c1
      have := G.st i
      rw [e, cr_aab] at this
      exact this rfl
    · by_cases c2 : (j + 1) % cs.length = i % cs.length
      · have := G.st j
        rw [Cy_add cs (j + 1) i c2, e, cr_aab] at this
        exact this rfl
      · have m := G.me i j (by rw [Nat.mod_eq_of_lt hj, Nat.mod_eq_of_lt (by omega)]; omega) (by rw [Nat.mod_eq_of_lt hj, Nat.mod_eq_of_lt (by omega)]; omega) c2
        unfold meetQ at m
        rw [e, on_end] at m
        simp at m
  rw [List.nodup_iff_pairwise_ne, List.pairwise_iff_getElem]
  intro i j hi hj hij h
  apply key i j hij hj
  rw [Cy_nth hi, Cy_nth hj]
  have a := nth_get hi
  have b := nth_get hj
  rw [List.getElem?_eq_getElem hi] at a
  rw [List.getElem?_eq_getElem hj] at b
  rw [← Option.some.inj a, ← Option.some.inj b, h]
/-- .. and from parts with indexes -/
theorem good_of {cs : List Pt} (l3 : 3 ≤ cs.length) (st : ∀ i, i < cs.length → cr (Cy cs i) (Cy cs (i + 1)) (Cy cs (i + 2)) ≠ 0) (me : noMeet cs) : Good cs := by
  have h0 : 0 < cs.length := by omega
  have sub : ∀ a k, Cy cs (a % cs.length + k) = Cy cs (a + k) := by
    intro a k
    exact Cy_add cs _ _ (Nat.mod_add_mod a cs.length k)
  refine ⟨l3, ?_, ?_⟩
  · intro i
    have := st (i % cs.length) (Nat.mod_lt _ h0)
    rw [sub, sub, Cy_mod] at this
    exact this
  · have key : ∀ i j, i < j → j < cs.length → (i + 1) % cs.length ≠ j → (j + 1) % cs.length ≠ i → meetQ (Cy cs i) (Cy cs (i + 1)) (Cy cs j) (Cy cs (j + 1)) = false := by
      intro i j hij hj h2 h3
      have := me i j (by rw [Nat.mod_eq_of_lt (by omega)] at h2; omega) hj (by
        rintro ⟨rfl, rfl⟩
        rw [show cs.length - 1 + 1 = cs.length by omega, Nat.mod_self] at h3
        exact h3 rfl)
      rw [Cy_nth hj, Cy_nth (by omega : i < _)]
      exact this
    intro i j h1 h2 h3
    have hi := Nat.mod_lt i h0
    have hj := Nat.mod_lt j h0
    rw [← sub i 1, ← sub j 1, ← Cy_mod cs i, ← Cy_mod cs j]
    by_cases c : i % cs.length < j % cs.length
    · exact key _ _ c hj (by rw [Nat.mod_add_mod]; exact h2) (by rw [Nat.mod_add_mod]; exact h3)
    · rw [← meet_comm]
      exact key _ _ (by omega) hi (by rw [Nat.mod_add_mod]; exact h3) (by rw [Nat.mod_add_mod]; exact h2)
end K84
end P_N2
section P_N3
set_option Elab.async false
set_option linter.all false
set_option maxRecDepth 100000
set_option maxHeartbeats 4000000
namespace K84
/-! twice a ring's area -/
def X (a b : Pt) : Rat := a.1 * b.2 - b.1 * a.2
def pth : List Pt → Rat
  | [] => 0
  | a :: r => match r with
    | [] => 0
    | b :: _ => X a b + pth r
theorem pth2 (a b : Pt) (r : List Pt) : pth (a :: b :: r) = X a b + pth (b :: r) := rfl
theorem pth_snoc : ∀ (l : List Pt) (a b : Pt), pth (l ++ [a, b]) = pth (l ++ [a]) + X a b
  | [], a, b => by
    show X a b + 0 = 0 + X a b
    grind
  | [x], a, b => by
    show X x a + (X a b + 0) = (X x a + 0) + X a b
    grind
  | x :: y :: l, a, b => by
    have := pth_snoc (y :: l) a b
    rw [List.cons_append, List.cons_append, pth2, List.cons_append, List.cons_append, pth2]
    rw [List.cons_append, List.cons_append] at this
    rw [this]
    grind
theorem X_swap (a b : Pt) : X b a = -X a b := by unfold X; grind
theorem pth_rev : ∀ l : List Pt, pth l.reverse = -pth l
  | [] => by decide
  | [a] => by show (0 : Rat) = -0; grind
  | a :: b :: l => by
    rw [List.reverse_cons, List.reverse_cons, List.append_assoc]
    show pth (l.reverse ++ [b, a]) = _
    rw [pth_snoc, ← List.reverse_cons, pth_rev (b :: l), pth2, X_swap]
    grind
theorem foldl_add {α : Type} (f : α → Rat) : ∀ (ws : List α) (s : Rat), ws.foldl (fun s w => s + f w) s = s + ws.foldl (fun s w => s + f w) 0
  | [], s => by
    show s = s + 0
    grind
  | w :: ws, s => by
    rw [List.foldl_cons, List.foldl_cons, foldl_add f ws (s + f w), foldl_add f ws (0 + f w)]
    grind
theorem zip_pth : ∀ (l : List Pt) (a z : Pt), ((a :: l).zip (l ++ [z])).foldl (fun s w => s + (w.1.1 * w.2.2 - w.2.1 * w.1.2)) 0 = pth (a :: l ++ [z])
  | [], a, z => by
    show 0 + X a z = X a z + 0
    grind
  | b :: l, a, z => by
    have ih := zip_pth l b z
    rw [List.cons_append, List.zip_cons_cons, List.foldl_cons, foldl_add (fun w : Pt × Pt => w.1.1 * w.2.2 - w.2.1 * w.1.2), ih]
    show 0 + X a b + _ = X a b + pth (b :: l ++ [z])
    grind
theorem dbl_pth (a : Pt) (r : List Pt) : dbl (a :: r) = pth (a :: r ++ [a]) := zip_pth r a a
theorem dbl_rot1 (a : Pt) : ∀ r : List Pt, dbl (r ++ [a]) = dbl (a :: r)
  | [] => rfl
  | b :: s => by
    rw [List.cons_append, dbl_pth, dbl_pth, List.cons_append, List.append_assoc]
    show pth (b :: (s ++ [a, b])) = pth (a :: b :: (s ++ [a]))
    rw [pth2, ← List.cons_append, pth_snoc, List.cons_append]
    grind
theorem dbl_rot (cs : List Pt) : ∀ k, k ≤ cs.length → dbl (cs.drop k ++ cs.take k) = dbl cs
  | 0, _ => by simp
  | k + 1, h => by
    rw [← dbl_rot cs k (by omega)]
    rw [List.drop_eq_getElem_cons (i := k) (by omega), List.cons_append, ← dbl_rot1, List.append_assoc, List.take_succ_eq_append_getElem (by omega)]
theorem dbl_rev : ∀ cs : List Pt, dbl cs.reverse = -dbl cs
  | [] => by show (0 : Rat) = -0; grind
  | a :: r => by
    rw [List.reverse_cons, dbl_rot1, dbl_pth, dbl_pth, ← pth_rev]
    congr 1
    simp
theorem pth_mv (v : Pt) : ∀ (l : List Pt) (a z : Pt), pth ((a :: l ++ [z]).map (mv v)) = pth (a :: l ++ [z]) + (v.1 * (z.2 - a.2) - v.2 * (z.1 - a.1))
  | [], a, z => by
    show X (mv v a) (mv v z) + 0 = (X a z + 0) + _
    unfold X mv
    grind
  | b :: l, a, z => by
    have ih := pth_mv v l b z
    show X (mv v a) (mv v b) + pth ((b :: l ++ [z]).map (mv v)) = (X a b + pth (b :: l ++ [z])) + _
    rw [ih]
    unfold X mv
    grind
theorem dbl_mv (v : Pt) : ∀ cs : List Pt, dbl (cs.map (mv v)) = dbl cs
  | [] => rfl
  | a :: r => by
    have e := pth_mv v r a a
    rw [List.map_cons, dbl_pth, dbl_pth]
    rw [List.map_append, List.map_cons] at e
    show pth (mv v a :: List.map (mv v) r ++ List.map (mv v) [a]) = _
    rw [e]
    grind
def sc (s : Rat) (p : Pt) : Pt := (s * p.1, s * p.2)
theorem pth_sc (s : Rat) : ∀ l : List Pt, pth (l.map (sc s)) = s * s * pth l
  | [] => by show (0 : Rat) = s * s * 0; grind
  | [a] => by show (0 : Rat) = s * s * 0; grind
  | a :: b :: l => by
    have ih := pth_sc s (b :: l)
    rw [List.map_cons] at ih
    rw [List.map_cons, List.map_cons, pth2, pth2, ih]
    unfold X sc
    grind
theorem dbl_sc (s : Rat) : ∀ cs : List Pt, dbl (cs.map (sc s)) = s * s * dbl cs
  | [] => by show (0 : Rat) = s * s * 0; grind
  | a :: r => by
    have e := pth_sc s (a :: r ++ [a])
    rw [List.map_cons, dbl_pth, dbl_pth, ← e]
    simp
theorem cr_sc (s : Rat) (a b c : Pt) : cr (sc s a) (sc s b) (sc s c) = s * s * cr a b c := by unfold cr sc; grind
theorem lt_sc {s : Rat} (h : 0 < s) (x y : Rat) : (s * x < s * y) = (x < y) := by
  apply propext
  constructor
  · intro k
    refine Rat.not_le.mp fun z => ?_
    have : 0 ≤ s * (x - y) := Rat.mul_nonneg (by grind) (by grind)
    grind
  · intro k
    have : 0 < s * (y - x) := Rat.mul_pos h (by grind)
    grind
theorem sc_keep {s : Rat} (h : 0 < s) : Keep (sc s) (s * s) := by
  have h2 : 0 < s * s := Rat.mul_pos h h
  refine ⟨by grind, fun a b c => cr_sc s a b c, fun p a b => ?_⟩
  unfold onQ
  rw [cr_sc]
  have e : decide (s * s * cr a b p = 0) = decide (cr a b p = 0) := by
    by_cases c : cr a b p = 0
    · simp [c]
    · have : ¬ s * s * cr a b p = 0 := by
        intro z
        rcases Rat.mul_eq_zero.mp z with z | z
        · grind
        · exact c z
      simp [c, this]
  rw [e]
  unfold withinQ sc
  simp only [lt_sc h]
def mr (p : Pt) : Pt := (-p.1, p.2)
theorem lt_mr (x y : Rat) : (-x < -y) = (y < x) := propext (by grind)
theorem mr_keep : Keep mr (-1) := by
  refine ⟨by decide, fun a b c => by unfold cr mr; grind, fun p a b => ?_⟩
  unfold onQ
  have e0 : cr (mr a) (mr b) (mr p) = -cr a b p := by unfold cr mr; grind
  have e : decide (cr (mr a) (mr b) (mr p) = 0) = decide (cr a b p = 0) := by
    rw [e0]
    by_cases c : cr a b p = 0
    · simp [c]
    · have : ¬ -cr a b p = 0 := by grind
      simp [c, this]
  rw [e]
  unfold withinQ mr
  simp only [lt_mr]
  have : (!(decide (a.1 < p.1) && decide (b.1 < p.1)) && !(decide (p.1 < a.1) && decide (p.1 < b.1))) = (!(decide (p.1 < a.1) && decide (p.1 < b.1)) && !(decide (a.1 < p.1) && decide (b.1 < p.1))) := Bool.and_comm ..
  rw [this]
/-! the law's crossing -/
def crossQ (a b c d : Pt) : Bool := (onQ c a b || onQ d a b) || (onQ a c d || onQ b c d) || (!(sgR (cr a b c) == sgR (cr a b d)) && !(sgR (cr c d a) == sgR (cr c d b)))
theorem sq_nonneg (s : Int) : ¬ s * s < 0 := by
  rcases Int.le_total 0 s with h | h
  · exact Int.not_lt.mpr (Int.mul_nonneg h h)
  · have := Int.mul_nonneg (Int.neg_nonneg_of_nonpos h) (Int.neg_nonneg_of_nonpos h)
    rw [Int.neg_mul_neg] at this
    exact Int.not_lt.mpr this
theorem cross_meet {a b c d : Pt} (h : crossQ a b c d = false) : meetQ a b c d = false := by
  unfold crossQ at h
  simp only [Bool.or_eq_false_iff, Bool.and_eq_false_iff, Bool.not_eq_false'] at h
  obtain ⟨⟨⟨h1, h2⟩, h3, h4⟩, h5⟩ := h
  unfold meetQ
  rw [h1, h2, h3, h4]
  simp only [Bool.false_or]
  rcases h5 with e | e
  · have e := eq_of_beq e
    rw [e]
    have := sq_nonneg (sgR (cr a b d))
    simp [this]
  · have e := eq_of_beq e
    rw [e]
    have := sq_nonneg (sgR (cr c d b))
    simp [this]
end K84
end P_N3
section P_Q7
set_option Elab.async false
set_option linter.all false
set_option maxRecDepth 100000
set_option maxHeartbeats 4000000
set_option exponentiation.threshold 10000
namespace K84
open PySem PySem.Spec PyProof.Rows L2 Mi

theorem compared0 {n : Nat} {a b : T3} {h : MH} (ha : Tok n a) (hb : Tok n b) (l : n ≤ 1000) : F_compared [trv a, trv b, .int 0] h = .ok (.int (sgR ((toPt a).1 - (toPt b).1))) h := by
  have e := less_cr (x := a.1) (y := b.1) ha.p hb.p
  have ha := ha.up l
  have hb := hb.up l
  unfold F_compared b_compared
  rw [bodyF_at]
  simp [trv, mul_M ha.x hb.w, mul_M hb.x ha.w, sign_ok]
  exact e
theorem compared1 {n : Nat} {a b : T3} {h : MH} (ha : Tok n a) (hb : Tok n b) (l : n ≤ 1000) : F_compared [trv a, trv b, .int 1] h = .ok (.int (sgR ((toPt a).2 - (toPt b).2))) h := by
  have e := less_cr (x := a.2.1) (y := b.2.1) ha.p hb.p
  have ha := ha.up l
  have hb := hb.up l
  unfold F_compared b_compared
  rw [bodyF_at]
  simp [trv, mul_M ha.y hb.w, mul_M hb.y ha.w, sign_ok]
  exact e
theorem less0 {n : Nat} {a b : T3} {h : MH} (ha : Tok n a) (hb : Tok n b) (l : n ≤ 1000) : F__law_less [trv a, trv b, .int 0] h = .ok (.bl (decide ((toPt a).1 < (toPt b).1))) h := by
  have e := lt_cross (x := a.1) (y := b.1) ha.p hb.p
  have ha := ha.up l
  have hb := hb.up l
  unfold F__law_less b__law_less
  rw [bodyF_at]
  simp [trv, mul_M ha.x hb.w, mul_M hb.x ha.w, e]
  rfl
theorem less1 {n : Nat} {a b : T3} {h : MH} (ha : Tok n a) (hb : Tok n b) (l : n ≤ 1000) : F__law_less [trv a, trv b, .int 1] h = .ok (.bl (decide ((toPt a).2 < (toPt b).2))) h := by
  have e := lt_cross (x := a.2.1) (y := b.2.1) ha.p hb.p
  have ha := ha.up l
  have hb := hb.up l
  unfold F__law_less b__law_less
  rw [bodyF_at]
  simp [trv, mul_M ha.y hb.w, mul_M hb.y ha.w, e]
  rfl
theorem sgR_cases (p q : Rat) : (p < q ∧ sgR (p - q) = -1) ∨ (p = q ∧ sgR (p - q) = 0) ∨ (q < p ∧ sgR (p - q) = 1) := by
  unfold sgR
  by_cases c1 : p < q
  · left
    have h1 : ¬ 0 < p - q := by grind
    have h2 : p - q < 0 := by grind
    simp [c1, h1, h2]
  · by_cases c2 : q < p
    · right; right
      have h1 : 0 < p - q := by grind
      simp [c2, h1]
    · right; left
      have : p = q := by grind
      subst this
      have h1 : ¬ 0 < p - p := by grind
      have h2 : ¬ p - p < 0 := by grind
      simp [h1, h2]
theorem within_sg (a m b : Rat) : decide (sgR (m - a) * sgR (m - b) ≤ 0) = withinQ a m b := by
  unfold withinQ
  rcases sgR_cases m a with ⟨h1, e1⟩ | ⟨h1, e1⟩ | ⟨h1, e1⟩ <;> rcases sgR_cases m b with ⟨h2, e2⟩ | ⟨h2, e2⟩ | ⟨h2, e2⟩ <;> rw [e1, e2]
  · simp [h1, h2]
  · have : ¬ m < b := by grind
    have : ¬ b < m := by grind
    simp [*]
  · have : ¬ m < b := by grind
    have : ¬ a < m := by grind
    simp [*]
  · have : ¬ m < a := by grind
    have : ¬ a < m := by grind
    simp [*]
  · have : ¬ m < a := by grind
    have : ¬ a < m := by grind
    simp [*]
  · have : ¬ m < a := by grind
    have : ¬ a < m := by grind
    simp [*]
  · have : ¬ m < a := by grind
    have : ¬ b < m := by grind
    simp [*]
  · have : ¬ m < b := by grind
    have : ¬ b < m := by grind
    simp [*]
  · simp [h1, h2]
theorem ontri_ok {n : Nat} {p a b : T3} {h : MH} (hp : Tok n p) (ha : Tok n a) (hb : Tok n b) (l : n ≤ 1000) : F_is_on_triples [trv p, trv a, trv b] h = .ok (.bl (onQ (toPt p) (toPt a) (toPt b))) h := by
  unfold F_is_on_triples b_is_on_triples
  rw [bodyF_at]
  have t := turnof_ok (h := h) hp ha hb l
  rw [← cr_cyc] at t
  by_cases c : cr (toPt a) (toPt b) (toPt p) = 0
  · have s : sgR (cr (toPt a) (toPt b) (toPt p)) = 0 := by have := sgR_zero (q := cr (toPt a) (toPt b) (toPt p)); simpa [c] using this
    simp [t, s]
    have x1 := compared0 (h := h) hp ha l
    have x2 := compared0 (h := h) hp hb l
    have y1 := compared1 (h := h) hp ha l
    have y2 := compared1 (h := h) hp hb l
    have e := compO_data (vs := [3]) (fi := itAny (tupE (consA (cE (.int 0)) (consA (cE (.int 1)) nilA)))) (t := nameT 3) (σ := [SV.val (trv p), SV.val (trv a), SV.val (trv b), SV.un]) (h := h) (xs := [0, 1]) (fun i : Int => .int i) (fun i => .bl (if i = 0 then withinQ (toPt a).1 (toPt p).1 (toPt b).1 else withinQ (toPt a).2 (toPt p).2 (toPt b).2))
      (f := bin2 leM (bin2 mulM (callE (callN 3 F_compared) [] (consA (varE 0) (consA (varE 1) (consA (varE 3) nilA)))) (callE (callN 3 F_compared) [] (consA (varE 0) (consA (varE 2) (consA (varE 3) nilA))))) (cE (.int 0))) (by simp) (by simp) (by
        intro x hx
        simp only [List.mem_cons, List.not_mem_nil, or_false] at hx
        refine ⟨_, rfl, ?_⟩
        rcases hx with rfl | rfl
        · simp [wipeM, x1, x2, mul_M (sgR_sz _) (sgR_sz _), within_sg]
        · simp [wipeM, y1, y2, mul_M (sgR_sz _) (sgR_sz _), within_sg])
    rw [e]
    simp
    have e2 := allBM_map (fun i : Int => if i = 0 then withinQ (toPt a).1 (toPt p).1 (toPt b).1 else withinQ (toPt a).2 (toPt p).2 (toPt b).2) [0, 1] h
    simp at e2
    rw [e2]
    simp [onQ, c]
  · have s : (sgR (cr (toPt a) (toPt b) (toPt p)) == 0) = false := by rw [sgR_zero]; simp [c]
    simp [t, s, onQ, c]
theorem lawon_ok {n : Nat} {p a b : T3} {h : MH} (hp : Tok n p) (ha : Tok n a) (hb : Tok n b) (l : n ≤ 1000) : F__law_on [trv p, trv a, trv b] h = .ok (.bl (onQ (toPt p) (toPt a) (toPt b))) h := by
  unfold F__law_on b__law_on
  rw [bodyF_at]
  have t := lawdet_ok (h := h) hp ha hb l
  rw [← cr_cyc] at t
  by_cases c : cr (toPt a) (toPt b) (toPt p) = 0
  · have s : sgR (cr (toPt a) (toPt b) (toPt p)) = 0 := by have := sgR_zero (q := cr (toPt a) (toPt b) (toPt p)); simpa [c] using this
    have w1 := less0 (h := h) hp ha l
    have w2 := less0 (h := h) hp hb l
    have w3 := less0 (h := h) ha hp l
    have w4 := less0 (h := h) hb hp l
    have v1 := less1 (h := h) hp ha l
    have v2 := less1 (h := h) hp hb l
    have v3 := less1 (h := h) ha hp l
    have v4 := less1 (h := h) hb hp l
    have r := rng1_nat (n := 2) (by decide)
    have r2 : ((List.range 2).map fun i : Nat => MV.int i) = [.int 0, .int 1] := rfl
    rw [r2] at r
    simp at r
    simp only [seqS_at, ifS_at, forS_at, tstE_at, bin2_at, callE_at, consA_at, nilA_at, varE_at, cE_at, itB_at, retS_at, nextS_at]
    generalize hB : ifS (orT (andT (tstE (callE (callN 3 F__law_less) [] (consA (varE 0) (consA (varE 1) (consA (varE 3) nilA))))) (tstE (callE (callN 3 F__law_less) [] (consA (varE 0) (consA (varE 2) (consA (varE 3) nilA)))))) (andT (tstE (callE (callN 3 F__law_less) [] (consA (varE 1) (consA (varE 0) (consA (varE 3) nilA))))) (tstE (callE (callN 3 F__law_less) [] (consA (varE 2) (consA (varE 0) (consA (varE 3) nilA))))))) (retS (cE (.bl false))) nextS = B
    have b0 : B [SV.val (trv p), SV.val (trv a), SV.val (trv b), SV.val (.int 0)] h = if withinQ (toPt a).1 (toPt p).1 (toPt b).1 = true then .nx [SV.val (trv p), SV.val (trv a), SV.val (trv b), SV.val (.int 0)] h else .rt (.bl false) h := by
      rw [← hB]
      simp [w1, w2, w3, w4]
      unfold withinQ
      by_cases h1 : (toPt p).1 < (toPt a).1 <;> by_cases h2 : (toPt p).1 < (toPt b).1 <;> by_cases h3 : (toPt a).1 < (toPt p).1 <;> by_cases h4 : (toPt b).1 < (toPt p).1 <;> simp [h1, h2, h3, h4, w1, w2, w3, w4]
    have b1 : B [SV.val (trv p), SV.val (trv a), SV.val (trv b), SV.val (.int 1)] h = if withinQ (toPt a).2 (toPt p).2 (toPt b).2 = true then .nx [SV.val (trv p), SV.val (trv a), SV.val (trv b), SV.val (.int 1)] h else .rt (.bl false) h := by
      rw [← hB]
      simp [v1, v2, v3, v4]
      unfold withinQ
      by_cases h1 : (toPt p).2 < (toPt a).2 <;> by_cases h2 : (toPt p).2 < (toPt b).2 <;> by_cases h3 : (toPt a).2 < (toPt p).2 <;> by_cases h4 : (toPt b).2 < (toPt p).2 <;> simp [h1, h2, h3, h4, v1, v2, v3, v4]
    simp [t, s, r]
    rw [forL_cons (ht := rfl)]
    simp only [List.set_cons_succ, List.set_cons_zero]
    rw [b0]
    by_cases q0 : withinQ (toPt a).1 (toPt p).1 (toPt b).1 = true
    · rw [if_pos q0]
      simp only [turnFl_nx]
      rw [forL_cons (ht := rfl)]
      simp only [List.set_cons_succ, List.set_cons_zero]
      rw [b1]
      by_cases q1 : withinQ (toPt a).2 (toPt p).2 (toPt b).2 = true
      · rw [if_pos q1]
        simp [onQ, c, q0, q1]
      · rw [if_neg q1]
        simp [onQ, c, q0, q1]
    · rw [if_neg q0]
      simp [onQ, c, q0]
  · have s : (sgR (cr (toPt a) (toPt b) (toPt p)) == 0) = false := by rw [sgR_zero]; simp [c]
    simp [t, s, onQ, c]
end K84
end P_Q7
section P_Q8
set_option Elab.async false
set_option linter.all false
set_option maxRecDepth 100000
set_option maxHeartbeats 4000000
set_option exponentiation.threshold 10000
namespace K84
open PySem PySem.Spec PyProof.Rows L2 Mi

def wdS : Wd → List Nat
  | .corner => [99, 111, 114, 110, 101, 114]
  | .wall => [119, 97, 108, 108]
  | .inside => [105, 110, 115, 105, 100, 101]
  | .outside => [111, 117, 116, 115, 105, 100, 101]
theorem wallsG {α : Type} (f : α → MV) {cs : List α} {h : MH} (l : cs.length ≤ 1000) : bodyF 1 1 b_walls_of [.lst (cs.map f)] h = .ok (.lst ((walls cs).map fun w => .tup [f w.1, f w.2])) h := by
  unfold b_walls_of
  rw [bodyF_at]
  have z : zl = 16777216 := rfl
  have e : addM h (.lst ((cs.map f).tail)) (.lst ((cs.map f).take 1)) = some (.lst ((cs.tail ++ cs.take 1).map f)) := by
    rw [add_Ml _ _ _ (by simp only [List.length_tail, List.length_take, List.length_map]; omega), List.map_append, List.map_tail, List.map_take]
  have e2 : zipL (cs.map f) ((cs.tail ++ cs.take 1).map f) = (walls cs).map fun w => .tup [f w.1, f w.2] := by
    rw [zipL_map]
    rfl
  have l2 : ((walls cs).map fun w => MV.tup [f w.1, f w.2]).length ≤ zl := by
    rw [List.length_map, walls_len]
    omega
  simp [e, -List.map_tail, -List.map_take, -List.map_append, -List.length_map]
  rw [e2]
  simp [l2, -List.length_map]
def ct (cs : List T3) : MV := .lst (cs.map trv)
def wt (w : T3 × T3) : MV := .tup [trv w.1, trv w.2]
theorem walls_of_ok {cs : List T3} {h : MH} (l : cs.length ≤ 1000) : F_walls_of [ct cs] h = .ok (.lst ((walls cs).map wt)) h := wallsG trv l
theorem sides_ok {cs : List T3} {h : MH} (l : cs.length ≤ 1000) : F__law_sides [ct cs] h = .ok (.lst ((walls cs).map wt)) h := wallsG trv l
theorem sgR_pos_iff {q : Rat} : 0 < sgR q ↔ 0 < q := by
  unfold sgR
  by_cases c : 0 < q
  · simp [c]
  · by_cases d : q < 0 <;> simp [c, d]
def wp (w : T3 × T3) : Pt × Pt := (toPt w.1, toPt w.2)
/-- how the program goes over a wall -/
def bWA : SM := (seqS (ifS (tstE (callE (callN 2 F_is_same) [] (consA (varE 1) (consA (varE 3) nilA)))) (retS (cE (.str [99, 111, 114, 110, 101, 114]))) nextS) (seqS (ifS (andT (notT (tstE (callE (callN 2 F_is_same) [] (consA (varE 1) (consA (varE 4) nilA))))) (tstE (callE (callN 3 F_is_on_triples) [] (consA (varE 1) (consA (varE 3) (consA (varE 4) nilA)))))) (retS (cE (.str [119, 97, 108, 108]))) nextS) (seqS (par2S 5 6 (.v (bin2 ltM (callE (callN 3 F_compared) [] (consA (varE 1) (consA (varE 3) (consA (cE (.int 1)) nilA)))) (cE (.int 0)))) (.v (bin2 ltM (callE (callN 3 F_compared) [] (consA (varE 1) (consA (varE 4) (consA (cE (.int 1)) nilA)))) (cE (.int 0))))) (ifS (andT (tstE (bin2 neM (peekE 5) (peekE 6))) (tstE (bin2 eqM (bin2 gtM (callE (callN 3 F_turn_of) [] (consA (varE 3) (consA (varE 4) (consA (varE 1) nilA)))) (cE (.int 0))) (peekE 6)))) (setS 2 (un1 notM (varE 2))) nextS))))
def bWL : SM := (seqS (ifS (tstE (callE (callN 2 F__law_same) [] (consA (varE 1) (consA (varE 3) nilA)))) (retS (cE (.str [99, 111, 114, 110, 101, 114]))) nextS) (seqS (ifS (andT (notT (tstE (callE (callN 2 F__law_same) [] (consA (varE 1) (consA (varE 4) nilA))))) (tstE (callE (callN 3 F__law_on) [] (consA (varE 1) (consA (varE 3) (consA (varE 4) nilA)))))) (retS (cE (.str [119, 97, 108, 108]))) nextS) (seqS (par2S 5 6 (.v (callE (callN 3 F__law_less) [] (consA (varE 1) (consA (varE 3) (consA (cE (.int 1)) nilA))))) (.v (callE (callN 3 F__law_less) [] (consA (varE 1) (consA (varE 4) (consA (cE (.int 1)) nilA)))))) (ifS (andT (tstE (bin2 neM (peekE 5) (peekE 6))) (tstE (bin2 eqM (bin2 gtM (callE (callN 3 F__law_det) [] (consA (varE 3) (consA (varE 4) (consA (varE 1) nilA)))) (cE (.int 0))) (peekE 6)))) (setS 2 (un1 notM (varE 2))) nextS))))
def turnW (c : MV) (p a b : T3) (i : Bool) (h : MH) : Fl :=
  if toPt p = toPt a then .rt (.str (wdS .corner)) h else if toPt p ≠ toPt b ∧ onQ (toPt p) (toPt a) (toPt b) = true then .rt (.str (wdS .wall)) h
  else .nx [.val c, .val (trv p), .val (.bl (i != flipQ (toPt a) (toPt b) (toPt p))), .val (trv a), .val (trv b), .val (.bl (decide ((toPt p).2 < (toPt a).2))), .val (.bl (decide ((toPt p).2 < (toPt b).2)))] h
theorem turn_WA {n : Nat} {p a b : T3} {c : MV} {i : Bool} {s5 s6 : SV} {h : MH} (hp : Tok n p) (ha : Tok n a) (hb : Tok n b) (l : n ≤ 1000) : bWA [.val c, .val (trv p), .val (.bl i), .val (trv a), .val (trv b), s5, s6] h = turnW c p a b i h := by
  have s1 := same_ok (h := h) hp ha l
  have s2 := same_ok (h := h) hp hb l
  have o := ontri_ok (h := h) hp ha hb l
  have c1 := compared1 (h := h) hp ha l
  have c2 := compared1 (h := h) hp hb l
  have t := turnof_ok (h := h) ha hb hp l
  unfold bWA turnW
  simp [s1]
  by_cases e1 : toPt p = toPt a
  · simp [e1, wdS]
  · simp [e1, s2]
    by_cases e2 : toPt p = toPt b
    · simp [e2, c1, c2, t, sgR_neg_iff, sgR_pos_iff, flipQ]
      by_cases k1 : (toPt b).2 < (toPt a).2 <;> by_cases k2 : (toPt b).2 < (toPt b).2 <;> by_cases k3 : 0 < cr (toPt a) (toPt b) (toPt b) <;> simp [k1, k2, k3, t]
    · simp [e2, o]
      by_cases e3 : onQ (toPt p) (toPt a) (toPt b) = true
      · simp [e3, wdS]
      · simp [e3, c1, c2, t, sgR_neg_iff, sgR_pos_iff, flipQ]
        by_cases k1 : (toPt p).2 < (toPt a).2 <;> by_cases k2 : (toPt p).2 < (toPt b).2 <;> by_cases k3 : 0 < cr (toPt a) (toPt b) (toPt p) <;> simp [k1, k2, k3, t, sgR_pos_iff]
theorem turn_WL {n : Nat} {p a b : T3} {c : MV} {i : Bool} {s5 s6 : SV} {h : MH} (hp : Tok n p) (ha : Tok n a) (hb : Tok n b) (l : n ≤ 1000) : bWL [.val c, .val (trv p), .val (.bl i), .val (trv a), .val (trv b), s5, s6] h = turnW c p a b i h := by
  have s1 := lsame_ok (h := h) hp ha l
  have s2 := lsame_ok (h := h) hp hb l
  have o := lawon_ok (h := h) hp ha hb l
  have c1 := less1 (h := h) hp ha l
  have c2 := less1 (h := h) hp hb l
  have t := lawdet_ok (h := h) ha hb hp l
  unfold bWL turnW
  simp [s1]
  by_cases e1 : toPt p = toPt a
  · simp [e1, wdS]
  · simp [e1, s2]
    by_cases e2 : toPt p = toPt b
    · simp [e2, c1, c2, t, sgR_neg_iff, sgR_pos_iff, flipQ]
      by_cases k1 : (toPt b).2 < (toPt a).2 <;> by_cases k2 : (toPt b).2 < (toPt b).2 <;> by_cases k3 : 0 < cr (toPt a) (toPt b) (toPt b) <;> simp [k1, k2, k3, t]
    · simp [e2, o]
      by_cases e3 : onQ (toPt p) (toPt a) (toPt b) = true
      · simp [e3, wdS]
      · simp [e3, c1, c2, t, sgR_neg_iff, sgR_pos_iff, flipQ]
        by_cases k1 : (toPt p).2 < (toPt a).2 <;> by_cases k2 : (toPt p).2 < (toPt b).2 <;> by_cases k3 : 0 < cr (toPt a) (toPt b) (toPt p) <;> simp [k1, k2, k3, t, sgR_pos_iff]
def endW (c : MV) (p : T3) (d : Wd) (h : MH) (r : Fl) : Prop := match d with
  | .corner => r = .rt (.str (wdS .corner)) h
  | .wall => r = .rt (.str (wdS .wall)) h
  | .inside => ∃ s3 s4 s5 s6, r = .nx [.val c, .val (trv p), .val (.bl true), s3, s4, s5, s6] h
  | .outside => ∃ s3 s4 s5 s6, r = .nx [.val c, .val (trv p), .val (.bl false), s3, s4, s5, s6] h
theorem loopW {n : Nat} {p : T3} {c : MV} {h : MH} (B : SM) (hB : ∀ a b i s5 s6, Tok n a → Tok n b → B [.val c, .val (trv p), .val (.bl i), .val (trv a), .val (trv b), s5, s6] h = turnW c p a b i h) : ∀ (ws : List (T3 × T3)) (i : Bool) (s3 s4 s5 s6 : SV), (∀ w ∈ ws, Tok n w.1 ∧ Tok n w.2) →
    endW c p (whereL (toPt p) (ws.map wp) i) h (forL (tupT 2 (consT (nameT 3) (consT (nameT 4) nilT))) B (ws.map wt) [.val c, .val (trv p), .val (.bl i), s3, s4, s5, s6] h)
  | [], i, s3, s4, s5, s6, _ => by
    cases i
    · exact ⟨_, _, _, _, rfl⟩
    · exact ⟨_, _, _, _, rfl⟩
  | w :: r, i, s3, s4, s5, s6, hw => by
    have k := hw w List.mem_cons_self
    have ih := loopW B hB r (i != flipQ (toPt w.1) (toPt w.2) (toPt p)) (.val (trv w.1)) (.val (trv w.2)) (.val (.bl (decide ((toPt p).2 < (toPt w.1).2)))) (.val (.bl (decide ((toPt p).2 < (toPt w.2).2)))) fun x hx => hw x (List.mem_cons_of_mem _ hx)
    rw [List.map_cons, List.map_cons, forL_cons (σ1 := [.val c, .val (trv p), .val (.bl i), .val (trv w.1), .val (trv w.2), s5, s6]) (ht := rfl), hB _ _ _ _ _ k.1 k.2]
    unfold turnW whereL wp
    dsimp only
    by_cases e1 : toPt p = toPt w.1
    · rw [if_pos e1, if_pos e1]
      rfl
    · rw [if_neg e1, if_neg e1]
      by_cases e2 : toPt p ≠ toPt w.2 ∧ onQ (toPt p) (toPt w.1) (toPt w.2) = true
      · rw [if_pos e2, if_pos e2]
        rfl
      · rw [if_neg e2, if_neg e2]
        exact ih
def Tc (n : Nat) (cs : List T3) : Prop := ∀ t ∈ cs, Tok n t
theorem Tc.wall {n : Nat} {cs : List T3} (h : Tc n cs) {w : T3 × T3} (hw : w ∈ walls cs) : Tok n w.1 ∧ Tok n w.2 := by
  have q := List.of_mem_zip (a := w.1) (b := w.2) hw
  refine ⟨h _ q.1, h _ ?_⟩
  rcases List.mem_append.mp q.2 with z | z
  · exact List.mem_of_mem_tail z
  · exact List.mem_of_mem_take z
theorem walls_toPt (cs : List T3) : (walls cs).map wp = walls (cs.map toPt) := by
  unfold walls
  rw [← List.map_tail, ← List.map_take, ← List.map_append, List.zip_map]
  rfl
def whereC (cs : List T3) (p : T3) : Wd := whereL (toPt p) (walls (cs.map toPt)) false
theorem where_at_ok {n : Nat} {cs : List T3} {p : T3} {h : MH} (hc : Tc n cs) (hp : Tok n p) (l : n ≤ 1000) (lc : cs.length ≤ 1000) : F_where_at [ct cs, trv p] h = .ok (.str (wdS (whereC cs p))) h := by
  unfold F_where_at b_where_at
  rw [bodyF_at]
  have w := walls_of_ok (cs := cs) (h := h) lc
  have e := loopW (c := ct cs) (h := h) bWA (fun a b i s5 s6 ha hb => turn_WA hp ha hb l) (walls cs) false .un .un .un .un fun w hw => hc.wall hw
  rw [walls_toPt] at e
  simp [w, -tupT_at]
  unfold whereC
  unfold bWA at e
  revert e
  cases whereL (toPt p) (walls (cs.map toPt)) false with
  | corner =>
    intro e
    have e : _ = _ := e
    rw [e]
    rfl
  | wall =>
    intro e
    have e : _ = _ := e
    rw [e]
    rfl
  | inside =>
    intro e
    obtain ⟨s3, s4, s5, s6, e⟩ := e
    rw [e]
    rfl
  | outside =>
    intro e
    obtain ⟨s3, s4, s5, s6, e⟩ := e
    rw [e]
    rfl
theorem law_where_ok {n : Nat} {cs : List T3} {p : T3} {h : MH} (hc : Tc n cs) (hp : Tok n p) (l : n ≤ 1000) (lc : cs.length ≤ 1000) : F__law_where [ct cs, trv p] h = .ok (.str (wdS (whereC cs p))) h := by
  unfold F__law_where b__law_where
  rw [bodyF_at]
  have w := sides_ok (cs := cs) (h := h) lc
  have e := loopW (c := ct cs) (h := h) bWL (fun a b i s5 s6 ha hb => turn_WL hp ha hb l) (walls cs) false .un .un .un .un fun w hw => hc.wall hw
  rw [walls_toPt] at e
  simp [w, -tupT_at]
  unfold whereC
  unfold bWL at e
  revert e
  cases whereL (toPt p) (walls (cs.map toPt)) false with
  | corner =>
    intro e
    have e : _ = _ := e
    rw [e]
    rfl
  | wall =>
    intro e
    have e : _ = _ := e
    rw [e]
    rfl
  | inside =>
    intro e
    obtain ⟨s3, s4, s5, s6, e⟩ := e
    rw [e]
    rfl
  | outside =>
    intro e
    obtain ⟨s3, s4, s5, s6, e⟩ := e
    rw [e]
    rfl
end K84
end P_Q8
section P_Q9
set_option Elab.async false
set_option linter.all false
set_option maxRecDepth 100000
set_option maxHeartbeats 4000000
set_option exponentiation.threshold 10000
namespace Mi
open PySem PySem.Spec PyProof.Rows L2 TL
@[simp] theorem strE_at (f : EM) (k : List Nat → Sl → MH → Res MV) (σ : Sl) (h : MH) : strE f k σ h = bindR (f σ h) fun x h' => match x with
  | .str s => k s σ h'
  | _ => .no := by
  show bindR (f σ h) _ = _
  congr 1
  funext x h'
  cases x <;> rfl
@[simp] theorem strO_at (f : EM) (k : List Nat → Sl → MH → Res (List MV)) (σ : Sl) (h : MH) : strO f k σ h = bindR (f σ h) fun x h' => match x with
  | .str s => k s σ h'
  | _ => .no := by
  show bindR (f σ h) _ = _
  congr 1
  funext x h'
  cases x <;> rfl
@[simp] theorem revO_at (f : EM) (σ : Sl) (h : MH) : revO f σ h = bindR (f σ h) fun x h' => optR ((seqM h' x).map List.reverse) h' := (rfl)
@[simp] theorem nilD_at (σ : Sl) (h : MH) : nilD σ h = .ok [] h := (rfl)
@[simp] theorem consD_at (fk fv : EM) (fs : DM) (σ : Sl) (h : MH) : consD fk fv fs σ h = bindR (fk σ h) fun k h1 => bindR (fv σ h1) fun v h2 => bindR (fs σ h2) fun r h3 => match keyM k with
  | some q => .ok ((q, v) :: r) h3
  | none => .no := (rfl)
@[simp] theorem dispE_at (f : DM) (σ : Sl) (h : MH) : dispE f σ h = bindR (f σ h) fun ks h' => if ks.length ≤ 15 then .ok (.dic (mergeM [] ks)) h' else .no := (rfl)
theorem allM_strs : ∀ ps : List (List Nat), allM unStr (ps.map .str) = some ps
  | [] => rfl
  | p :: ps => by
    rw [List.map_cons]
    unfold allM
    rw [allM_strs ps]
    rfl
theorem join_M {s : List Nat} {ps : List (List Nat)} {h : MH} (l : (ps.map List.length).sum + ps.length * s.length ≤ zl) : joinM s h [.lst (ps.map .str)] = some (.str (joinL s ps)) := by
  unfold joinM
  dsimp only
  rw [seqM_lst]
  dsimp only
  rw [allM_strs]
  dsimp only
  rw [if_pos l]
theorem joinL_one : ∀ xs : List Nat, joinL [] (xs.map fun c => [c]) = xs
  | [] => rfl
  | [x] => rfl
  | x :: y :: r => by
    have := joinL_one (y :: r)
    rw [List.map_cons, List.map_cons] at *
    show [x] ++ ([] ++ joinL [] _) = _
    rw [this]
    rfl
theorem split_M {t : List Nat} {s : Nat} {S : List Nat} {ps : List (List Nat)} {h : MH} (ht : t = joinL (s :: S) ps) (hs : (s :: S).all (· < 256) = true) (hne : ps ≠ []) (hp : ∀ p ∈ ps, s ∉ p) (l : t.length + 2 ≤ zl) (l2 : ps.length ≤ zl) : splitM t h [.str (s :: S)] = some (ps.map .str) := by
  have e : Txt.split (toS t) (toS (s :: S)) = ps.map toS := by
    rw [ht, ← joinL_eq]
    refine split_join (s := s) (S := S) rfl (by
      rw [← Array.all_toList]
      exact hs) (by simpa using hne) ?_
    intro p h
    obtain ⟨q, hq, rfl⟩ := List.mem_map.mp h
    exact hp q hq
  unfold splitM
  dsimp only
  rw [e, if_pos ⟨by simp, l, by rw [List.length_map]; exact l2⟩, List.map_map]
  rfl
theorem rngD_nat (n : Nat) : rngD (n : Int) (-1) = (List.range (n + 1)).map fun i : Nat => .int ((n - i : Nat) : Int) := by
  unfold rngD
  have : ((n : Int) - -1).toNat = n + 1 := by omega
  rw [this]
  refine List.map_congr_left fun i hi => ?_
  have := List.mem_range.mp hi
  have : ((n - i : Nat) : Int) = (n : Int) - (i : Int) := by omega
  rw [this]
theorem rng3_nat {n : Nat} (l : n ≤ zl) : rng3M [.int n, .int (-1), .int (-1)] = some ((List.range (n + 1)).map fun i : Nat => .int ((n - i : Nat) : Int)) := by
  unfold rng3M
  have z : zl = 16777216 := rfl
  dsimp only
  rw [if_pos ⟨sml_nat l, (by rfl), (by rfl)⟩, rngD_nat]
end Mi
namespace K84
open PySem PySem.Spec PyProof.Rows L2 Mi TL

theorem in_pq {p : Pt} {cs : List Pt} {h : MH} : inM h (pq p) (cq cs) = some (.bl (decide (p ∈ cs))) := by
  unfold inM cq
  rw [inMb_pq]
  rfl
theorem passed_ok {n : Nat} {a b p : Pt} {h : MH} (ha : Bp n a) (hb : Bp n b) (hp : Bp n p) (l : n ≤ 400) : F_is_passed [wq (a, b), pq p] h = .ok (.bl (passQ p (a, b))) h := by
  unfold F_is_passed b_is_passed
  rw [bodyF_at]
  have l1 := less_ok (h := h) ha.2 hb.2 (by omega)
  have p1 := less_ok (h := h) hp.2 ha.2 (by omega)
  have p2 := less_ok (h := h) hp.2 hb.2 (by omega)
  have t1 := turn_ok (h := h) ha hb hp l
  have t2 := turn_ok (h := h) hb ha hp l
  unfold passQ
  by_cases c : a.2 < b.2
  · simp [wq, pq, l1, c]
    simp [p1]
    by_cases c1 : p.2 < a.2
    · simp [c1]
    · simp [c1, p2]
      by_cases c2 : p.2 < b.2
      · simp [c2]
        unfold pq at t1
        simp [t1, sgR_pos_iff]
      · simp [c2]
  · simp [wq, pq, l1, c]
    simp [p2]
    by_cases c1 : p.2 < b.2
    · simp [c1]
    · simp [c1, p1]
      by_cases c2 : p.2 < a.2
      · simp [c2]
        unfold pq at t2
        simp [t2, sgR_pos_iff]
      · simp [c2]
theorem there_ok {cs : List Pt} {p : Pt} {h : MH} (hc : Bc 30 cs) (hp : Bp 30 p) (l : cs.length ≤ 1000) : F_where_there [cq cs, pq p] h = .ok (.str (wdS (whereT cs p))) h := by
  unfold F_where_there b_where_there
  rw [bodyF_at]
  have z : zl = 16777216 := rfl
  have wl := walls_ok (cs := cs) (h := h) l
  have e1 := compO_data (vs := [4]) (fi := itAny (varE 2)) (t := nameT 4) (σ := [SV.val (cq cs), SV.val (pq p), SV.val (.lst ((walls cs).map wq)), SV.un, SV.un]) (h := h) (xs := walls cs) wq (fun w => .bl (onQ p w.1 w.2))
    (f := callE (callN 2 F_is_on_points) [] (consA (varE 1) (consA (varE 4) nilA))) (by simp) (by rw [walls_len]; omega) (by
      intro w hw
      obtain ⟨h1, h2⟩ := hc.wall hw
      have o := on_ok (h := h) hp h1 h2 (by decide)
      refine ⟨_, rfl, ?_⟩
      simp [wipeM, o])
  have e2 := compO_filter (vs := [4]) (fi := itAny (varE 2)) (t := nameT 4) (c := tstE (callE (callN 2 F_is_passed) [] (consA (varE 4) (consA (varE 1) nilA)))) (f := varE 4) (σ := [SV.val (cq cs), SV.val (pq p), SV.val (.lst ((walls cs).map wq)), SV.un, SV.un]) (h := h) (xs := walls cs) wq (passQ p) wq (by simp) (by rw [walls_len]; omega) (by
      intro w hw
      obtain ⟨h1, h2⟩ := hc.wall hw
      have o := passed_ok (h := h) h1 h2 hp (by decide)
      refine ⟨_, rfl, ?_, fun _ => ?_⟩
      · simp [wipeM, o]
      · simp [wipeM])
  have a := anyBM_map (fun w : Pt × Pt => onQ p w.1 w.2) (walls cs) h
  unfold whereT
  simp [in_pq]
  by_cases c : p ∈ cs
  · simp [c, wdS]
  · simp [c, wl, e1, a, -List.map_map]
    by_cases d : (walls cs).any (fun w => onQ p w.1 w.2) = true
    · simp [d, wdS]
    · have d : ((walls cs).any fun w => onQ p w.1 w.2) = false := by simpa using d
      rw [d]
      simp [e2, -List.map_map]
      have md : (((walls cs).filter (passQ p)).length : Int).fmod 2 = ((((walls cs).filter (passQ p)).length % 2 : Nat) : Int) := by
        rw [Int.fmod_eq_emod_of_nonneg _ (by decide)]
        exact (Int.natCast_emod _ 2).symm
      rw [md]
      by_cases k : ((walls cs).filter (passQ p)).length % 2 = 1
      · simp [k, wdS]
      · have : ((walls cs).filter (passQ p)).length % 2 = 0 := by omega
        simp [this, wdS]
theorem where_is_ok {cs : List Pt} {p : Pt} {h : MH} (R : RoomQ cs) (hp : Bp 30 p) : F_where_is [cq cs, pq p] h = .ok (.str (wdS (whereT cs p))) h := by
  unfold F_where_is b_where_is
  rw [bodyF_at]
  have := R.l
  simp [check_room_ok R, check_point_ok, there_ok R.bd hp (by omega : cs.length ≤ 1000)]
end K84
end P_Q9
section P_Q10
set_option Elab.async false
set_option linter.all false
set_option maxRecDepth 100000
set_option maxHeartbeats 4000000
set_option exponentiation.threshold 10000
namespace K84
open PySem PySem.Spec PyProof.Rows L2 Mi TL

/-- a point as a triple, as the program makes it -/
def tp (p : Pt) : T3 := (p.1.num * p.2.den, p.2.num * p.1.den, p.1.den * p.2.den)
theorem tp_pt (p : Pt) : toPt (tp p) = p := by
  have h1 := den_pos p.1
  have h2 := den_pos p.2
  unfold toPt tp
  dsimp only
  have e1 : Rat.divInt (p.1.num * p.2.den) (p.1.den * p.2.den) = p.1 := by
    rw [Rat.divInt_mul_right (by omega : (p.2.den : Int) ≠ 0)]
    exact Rat.num_divInt_den p.1
  have e2 : Rat.divInt (p.2.num * p.1.den) (p.1.den * p.2.den) = p.2 := by
    rw [Int.mul_comm (p.1.den : Int), Rat.divInt_mul_right (by omega : (p.1.den : Int) ≠ 0)]
    exact Rat.num_divInt_den p.2
  rw [e1, e2]
theorem tp_ok {n : Nat} {p : Pt} (h : Bp n p) : Tok (n + n) (tp p) := ⟨h.1.1.mul h.2.2, h.2.1.mul h.1.2, h.1.2.mul h.2.2, Int.mul_pos (den_pos _) (den_pos _)⟩
theorem triple_ok {n : Nat} {p : Pt} {h : MH} (hp : Bp n p) (l : n ≤ 1000) : F_triple_of [pq p] h = .ok (trv (tp p)) h := by
  have hp := hp.up l
  unfold F_triple_of b_triple_of
  rw [bodyF_at]
  simp [pq, fr]
  simp [mul_M hp.1.1 hp.2.2, mul_M hp.2.1 hp.1.2, mul_M hp.1.2 hp.2.2, trv, tp]
theorem triples_ok {cs : List Pt} {h : MH} (hc : Bc 30 cs) (l : cs.length ≤ 1000) : F_triples_of [cq cs] h = .ok (ct (cs.map tp)) h := by
  unfold F_triples_of b_triples_of
  rw [bodyF_at]
  have z : zl = 16777216 := rfl
  have e := compO_data (vs := [1]) (fi := itAny (varE 0)) (t := nameT 1) (σ := [SV.val (cq cs), SV.un]) (h := h) (xs := cs) pq (fun p => trv (tp p))
    (f := callE (callN 1 F_triple_of) [] (consA (varE 1) nilA)) (by simp [cq]) (by omega) (by
      intro p hp
      refine ⟨_, rfl, ?_⟩
      simp [wipeM, triple_ok (hc p hp) (by decide)])
  simp [e, ct]
theorem count_ok {w : Nat} {h : MH} : F_is_count [.int w, .int 0] h = .ok (.bl true) h := by
  unfold F_is_count b_is_count
  rw [bodyF_at]
  have z : ¬ ((w : Int) < 0) := by omega
  simp [whole_int, maxM]
theorem sizes_ok {w v : Nat} {h : MH} : F_check_sizes [.int w, .int v] h = .ok .non h := by
  unfold F_check_sizes b_check_sizes
  rw [bodyF_at]
  simp [count_ok]
def sgn : Wd → Nat
  | .corner => 43
  | .wall => 45
  | .inside => 35
  | .outside => 46
def rowP (f : Nat → Nat → Wd) (w y : Nat) : List Nat := (List.range (w + 1)).map fun x => sgn (f x y)
/-- the rows of a picture, from above -/
def rowsP (f : Nat → Nat → Wd) (w v : Nat) : List (List Nat) := (List.range (v + 1)).map fun i => rowP f w (v - i)
def picP (f : Nat → Nat → Wd) (w v : Nat) : List Nat := joinL [10] (rowsP f w v)
def wordsM : MV := .dic [(.inr (toS [99, 111, 114, 110, 101, 114]), .str [43]), (.inr (toS [119, 97, 108, 108]), .str [45]), (.inr (toS [105, 110, 115, 105, 100, 101]), .str [35]), (.inr (toS [111, 117, 116, 115, 105, 100, 101]), .str [46])]
theorem words_ok {h : MH} {σ : Sl} : dispE (consD (cE (.str [99, 111, 114, 110, 101, 114])) (cE (.str [43])) (consD (cE (.str [119, 97, 108, 108])) (cE (.str [45])) (consD (cE (.str [105, 110, 115, 105, 100, 101])) (cE (.str [35])) (consD (cE (.str [111, 117, 116, 115, 105, 100, 101])) (cE (.str [46])) nilD)))) σ h = .ok wordsM h := by
  rw [dispE_at]
  simp only [consD_at, nilD_at, cE_at, bindR_ok, keyM]
  rw [if_pos (by simp)]
  rfl
theorem word_ok {h : MH} (d : Wd) : ixDM h wordsM (.str (wdS d)) = some (.str [sgn d]) := by
  cases d <;> rfl
def pt1 (x y : Nat) : T3 := ((x : Int), (y : Int), 1)
theorem trv_pt1 (x y : Nat) : trv (pt1 x y) = .tup [.int x, .int y, .int 1] := rfl
theorem pt1_ok {x y : Nat} (hx : x < 2 ^ 20) (hy : y < 2 ^ 20) : Tok 20 (pt1 x y) := ⟨by simpa [Sz, pt1] using hx, by simpa [Sz, pt1] using hy, by show (1 : Int).natAbs < 2 ^ 20; decide, by show (0 : Int) < 1; decide⟩
/-- where the whole points lie -/
def fQ (cs : List Pt) (x y : Nat) : Wd := whereL (toPt (pt1 x y)) (walls cs) false
theorem rev_range {α : Type} (n : Nat) (g : Nat → α) : ((List.range (n + 1)).map g).reverse = (List.range (n + 1)).map fun i => g (n - i) := by
  refine List.ext_getElem (by simp) fun i h1 h2 => ?_
  simp
theorem sum_const {α : Type} (k : Nat) : ∀ (xs : List α) (f : α → List Nat), (∀ x ∈ xs, (f x).length = k) → ((xs.map f).map List.length).sum = xs.length * k
  | [], _, _ => by simp
  | x :: xs, f, h => by
    rw [List.map_cons, List.map_cons, List.sum_cons, sum_const k xs f fun y hy => h y (List.mem_cons_of_mem _ hy), h x List.mem_cons_self, List.length_cons, Nat.succ_mul]
    omega
theorem row_len (f : Nat → Nat → Wd) (w y : Nat) : (rowP f w y).length = w + 1 := by simp [rowP]
/-- a row of signs, told as one text -/
theorem row_join {f : Nat → Nat → Wd} {w y : Nat} {h : MH} (l : w < 1000) : joinM [] h [.lst ((List.range (w + 1)).map fun x => .str [sgn (f x y)])] = some (.str (rowP f w y)) := by
  have z : zl = 16777216 := rfl
  have e : ((List.range (w + 1)).map fun x => MV.str [sgn (f x y)]) = ((rowP f w y).map fun c => [c]).map .str := by
    unfold rowP
    rw [List.map_map, List.map_map]
    rfl
  rw [e, join_M]
  · rw [joinL_one]
  · rw [sum_const 1 (rowP f w y) (fun c => [c]) (fun _ _ => rfl), row_len]
    simp
    omega
theorem rows_join {f : Nat → Nat → Wd} {w v : Nat} {h : MH} (lw : w < 1000) (lv : v < 1000) : joinM [10] h [.lst ((rowsP f w v).map .str)] = some (.str (picP f w v)) := by
  have z : zl = 16777216 := rfl
  rw [join_M]
  · rfl
  · unfold rowsP
    rw [sum_const (w + 1) _ _ (fun i _ => row_len f w _)]
    simp
    have : (v + 1) * (w + 1) ≤ 1000 * 1000 := Nat.mul_le_mul (by omega) (by omega)
    omega
theorem room_picture_ok {cs : List Pt} {w v : Nat} {h : MH} (R : RoomQ cs) (lw : w < 1000) (lv : v < 1000) : F_room_picture [cq cs, .int w, .int v] h = .ok (.str (picP (fQ cs) w v)) h := by
  unfold F_room_picture b_room_picture
  rw [bodyF_at]
  have z : zl = 16777216 := rfl
  have lc := R.l
  have tc : Tc 60 (cs.map tp) := by
    intro t ht
    obtain ⟨p, hp, rfl⟩ := List.mem_map.mp ht
    exact tp_ok (R.bd p hp)
  have back : (cs.map tp).map toPt = cs := by
    rw [List.map_map]
    have : toPt ∘ tp = id := funext tp_pt
    rw [this, List.map_id]
  have rv := rng1_nat (n := v + 1) (by omega)
  have rw' := rng1_nat (n := w + 1) (by omega)
  have inner : ∀ y : Nat, y < v + 1 → ∀ s, compO [7] (itB rng1M (consA (bin2 addM (peekE 1) (cE (.int 1))) nilA)) (nameT 7) yesT (bin2 ixDM (peekE 4) (callE (callN 2 F_where_at) [] (consA (varE 3) (consA (tupE (consA (varE 7) (consA (varE 6) (consA (cE (.int 1)) nilA)))) nilA)))) [SV.val (cq cs), SV.val (.int w), SV.val (.int v), SV.val (ct (cs.map tp)), SV.val wordsM, SV.un, SV.val (.int y), s] h = .ok ((List.range (w + 1)).map fun x => .str [sgn (fQ cs x y)]) h := by
    intro y hy s
    refine compO_data (fun i : Nat => .int i) (fun x => .str [sgn (fQ cs x y)]) (by
      simp at rw'
      simp [rw']) (by rw [List.length_range]; omega) (by
      intro x hx
      have hx := List.mem_range.mp hx
      have wa := where_at_ok (h := h) tc ((pt1_ok (x := x) (y := y) (by omega) (by omega)).up (by decide : 20 ≤ 60)) (by decide) (by rw [List.length_map]; omega)
      rw [trv_pt1] at wa
      unfold whereC at wa
      rw [back] at wa
      refine ⟨_, rfl, ?_⟩
      simp [wipeM, wa, word_ok, fQ])
  have outer := compO_data (vs := [6]) (fi := itB rng1M (consA (bin2 addM (peekE 2) (cE (.int 1))) nilA)) (t := nameT 6) (f := wrapL (compO [7] (itB rng1M (consA (bin2 addM (peekE 1) (cE (.int 1))) nilA)) (nameT 7) yesT (bin2 ixDM (peekE 4) (callE (callN 2 F_where_at) [] (consA (varE 3) (consA (tupE (consA (varE 7) (consA (varE 6) (consA (cE (.int 1)) nilA)))) nilA))))))
    (σ := [SV.val (cq cs), SV.val (.int w), SV.val (.int v), SV.val (ct (cs.map tp)), SV.val wordsM, SV.un, SV.un, SV.un]) (h := h) (xs := List.range (v + 1)) (fun i : Nat => .int i) (fun y => .lst ((List.range (w + 1)).map fun x => .str [sgn (fQ cs x y)]))
    (by
      simp at rv
      simp [rv]) (by rw [List.length_range]; omega) (by
      intro y hy
      have hy := List.mem_range.mp hy
      refine ⟨_, rfl, ?_⟩
      rw [wrapL_at]
      simp only [wipeM, List.set_cons_succ, List.set_cons_zero, List.foldl_cons, List.foldl_nil]
      have := inner y hy .un
      rw [this]
      rfl)
  have pc : F_pictured [.lst ((List.range (v + 1)).map fun y => .lst ((List.range (w + 1)).map fun x => .str [sgn (fQ cs x y)]))] h = .ok (.str (picP (fQ cs) w v)) h := by
    unfold F_pictured b_pictured
    rw [bodyF_at]
    have e := compO_data (vs := [1]) (fi := itAny (wrapL (revO (peekE 0)))) (t := nameT 1) (f := strE (cE (.str [])) fun s => un1 (fun h x => joinM s h [x]) (peekE 1)) (σ := [SV.val (.lst ((List.range (v + 1)).map fun y => .lst ((List.range (w + 1)).map fun x => .str [sgn (fQ cs x y)]))), SV.un]) (h := h)
      (xs := List.range (v + 1)) (fun i => .lst ((List.range (w + 1)).map fun x => .str [sgn (fQ cs x (v - i))])) (fun i => .str (rowP (fQ cs) w (v - i))) (by
        simp only [itAny_at, wrapL_at, revO_at, peekE_at, List.getElem?_cons_zero, bindR_ok, seqM_lst, Option.map_some, optR_some, items_lst]
        rw [rev_range]) (by rw [List.length_range]; omega) (by
        intro i hi
        refine ⟨_, rfl, ?_⟩
        simp only [strE_at, cE_at, bindR_ok, un1_at, peekE_at]
        simp [wipeM]
        rw [row_join lw]
        rfl)
    simp [e]
    have := rows_join (f := fQ cs) (w := w) (v := v) (h := h) lw lv
    unfold rowsP at this
    rw [List.map_map] at this
    have e2 : (MV.str ∘ fun i => rowP (fQ cs) w (v - i)) = fun i => MV.str (rowP (fQ cs) w (v - i)) := rfl
    rw [e2] at this
    rw [this]
    rfl
  simp only [seqS_at, exprS_at, callE_at, consA_at, nilA_at, varE_at, retS_at, setS_at, wrapL_at]
  simp [check_room_ok R, sizes_ok, triples_ok R.bd (by omega : cs.length ≤ 1000), words_ok, -dispE_at]
  rw [outer]
  simp [pc]
end K84
end P_Q10
section P_Q11
set_option Elab.async false
set_option linter.all false
set_option maxRecDepth 100000
set_option maxHeartbeats 4000000
set_option exponentiation.threshold 10000
namespace K84
open PySem PySem.Spec PyProof.Rows L2 Mi TL

theorem app_M {ys : List MV} {x : MV} (l : ys.length < zl) : appendM ys [x] = some (ys ++ [x]) := if_pos l
def fC (cs : List T3) (x y : Nat) : Wd := whereC cs (pt1 x y)
theorem fC_fQ (cs : List T3) : fC cs = fQ (cs.map toPt) := rfl
def bLP : SM := mutS 3 appendM (consA (strE (cE (.str [])) fun s => un1 (fun h x => joinM s h [x]) (wrapL (compO [6] (itB rng1M (consA (bin2 addM (peekE 1) (cE (.int 1))) nilA)) (nameT 6) yesT (bin2 ixDM (peekE 4) (callE (callN 2 F__law_where) [] (consA (varE 0) (consA (tupE (consA (varE 6) (consA (varE 5) (consA (cE (.int 1)) nilA)))) nilA))))))) nilA)
theorem law_picture_ok {cs : List T3} {w v : Nat} {h : MH} (tc : Tc 60 cs) (lc : cs.length ≤ 1000) (lw : w < 1000) (lv : v < 1000) : F__law_picture [ct cs, .int w, .int v] h = .ok (.str (picP (fC cs) w v)) h := by
  unfold F__law_picture b__law_picture
  rw [bodyF_at]
  have z : zl = 16777216 := rfl
  have rw' := rng1_nat (n := w + 1) (by omega)
  have rv := rng3_nat (n := v) (by omega)
  obtain ⟨σ', h', e, rfl, _, s5, s6, rfl⟩ := forL_inv (α := Nat) (t := nameT 5) (b := bLP) (fun i : Nat => .int ((v - i : Nat) : Int))
    (fun pre post σ h' => h' = h ∧ pre ++ post = List.range (v + 1) ∧ ∃ s5 s6, σ = [.val (ct cs), .val (.int w), .val (.int v), .own (pre.map fun i => .str (rowP (fC cs) w (v - i))), .val wordsM, s5, s6])
    (by
      rintro pre i post σ h' ⟨rfl, he, s5, s6, rfl⟩
      refine ⟨_, rfl, ?_⟩
      have lp : pre.length ≤ v := by
        have := congrArg List.length he
        simp at this
        omega
      refine ⟨[.val (ct cs), .val (.int w), .val (.int v), .own ((pre ++ [i]).map fun i => .str (rowP (fC cs) w (v - i))), .val wordsM, .val (.int ((v - i : Nat) : Int)), s6], h', .inl ?_, rfl, by simpa using he, _, _, rfl⟩
      have inner : compO [6] (itB rng1M (consA (bin2 addM (peekE 1) (cE (.int 1))) nilA)) (nameT 6) yesT (bin2 ixDM (peekE 4) (callE (callN 2 F__law_where) [] (consA (varE 0) (consA (tupE (consA (varE 6) (consA (varE 5) (consA (cE (.int 1)) nilA)))) nilA)))) [.val (ct cs), .val (.int w), .val (.int v), .own (pre.map fun i => .str (rowP (fC cs) w (v - i))), .val wordsM, .val (.int ((v - i : Nat) : Int)), s6] h' = .ok ((List.range (w + 1)).map fun x => .str [sgn (fC cs x (v - i))]) h' := by
        refine compO_data (fun i : Nat => .int i) (fun x => .str [sgn (fC cs x (v - i))]) (by
          simp at rw'
          simp [rw']) (by rw [List.length_range]; omega) (by
          intro x hx
          have hx := List.mem_range.mp hx
          have wa := law_where_ok (h := h') tc ((pt1_ok (x := x) (y := v - i) (by omega) (by omega)).up (by decide : 20 ≤ 60)) (by decide) lc
          rw [trv_pt1] at wa
          refine ⟨_, rfl, ?_⟩
          simp [wipeM, wa, word_ok, fC])
      unfold bLP
      rw [mutS_at (ys := pre.map fun i => .str (rowP (fC cs) w (v - i))) (hy := rfl)]
      simp only [consA_at, strE_at, cE_at, bindR_ok, un1_at, wrapL_at, nilA_at]
      simp only [List.set_cons_succ, List.set_cons_zero]
      rw [inner]
      simp only [bindR_ok]
      rw [row_join lw]
      simp only [optR_some, bindR_ok, bindFl_ok]
      rw [app_M (by rw [List.length_map]; omega)]
      simp)
    (List.range (v + 1)) [] [.val (ct cs), .val (.int w), .val (.int v), .own [], .val wordsM, .un, .un] h ⟨rfl, rfl, _, _, rfl⟩
  unfold bLP at e
  have pj := rows_join (f := fC cs) (w := w) (v := v) (h := h') lw lv
  have e2 : (List.range (v + 1)).map (fun i => MV.str (rowP (fC cs) w (v - i))) = (rowsP (fC cs) w v).map .str := by
    unfold rowsP
    rw [List.map_map]
    rfl
  simp [words_ok, -dispE_at, rv, -mutS_at]
  simp only [List.nil_append] at e
  rw [e]
  simp
  rw [e2, pj]
  rfl
end K84
end P_Q11
section P_Q12
set_option Elab.async false
set_option linter.all false
set_option maxRecDepth 100000
set_option maxHeartbeats 4000000
set_option exponentiation.threshold 10000
namespace K84
open PySem PySem.Spec PyProof.Rows L2 Mi TL

theorem gcd_mod (a b : Int) : Int.gcd b (a % b) = Int.gcd b a := by
  have e : a = a % b + b * (a / b) := (Int.emod_add_mul_ediv a b).symm
  conv => rhs; rw [e]
  rw [Int.gcd_add_mul_left_right]
theorem common_loop {h : MH} : ∀ (n b : Nat) (a : Int), b < n → ∃ g : Int, whileL (tstE (bin2 neM (peekE 1) (cE (.int 0)))) (par2S 0 1 (.v (varE 1)) (.v (bin2 modM (callB intM (consA (peekE 0) nilA)) (peekE 1)))) n [.val (.int a), .val (.int b)] h = .nx [.val (.int g), .val (.int 0)] h ∧ g.natAbs = a.natAbs.gcd b
  | 0, b, a, l => by omega
  | n + 1, 0, a, l => ⟨a, by simp, by simp⟩
  | n + 1, b + 1, a, l => by
    have hb : ((b + 1 : Nat) : Int) ≠ 0 := by omega
    have e : a.fmod ((b + 1 : Nat) : Int) = (((a.fmod ((b + 1 : Nat) : Int)).toNat : Nat) : Int) := by
      have := Int.fmod_nonneg_of_pos a (show (0 : Int) < ((b + 1 : Nat) : Int) by omega)
      omega
    have l2 := Int.fmod_lt_of_pos a (show (0 : Int) < ((b + 1 : Nat) : Int) by omega)
    have l3 := Int.fmod_nonneg_of_pos a (show (0 : Int) < ((b + 1 : Nat) : Int) by omega)
    obtain ⟨g, h1, h2⟩ := common_loop (h := h) n (a.fmod ((b + 1 : Nat) : Int)).toNat ((b + 1 : Nat) : Int) (by omega)
    refine ⟨g, ?_, ?_⟩
    · rw [whileL_at]
      have md := mod_Mi a ((b + 1 : Nat) : Int) h hb
      have nb : (((b + 1 : Nat) : Int) == 0) = false := beq_eq_false_iff_ne.mpr hb
      simp only [tstE_at, bin2_at, peekE_at, List.getElem?_cons_zero, List.getElem?_cons_succ, bindR_ok, cE_at, ne_Mi, optR_some, nb, Bool.not_false, bindFl_ok, if_true]
      simp only [par2S_at, run_v, varE_at, bin2_at, callB_at, consA_at, nilA_at, peekE_at, List.getElem?_cons_zero, List.getElem?_cons_succ, bindR_ok, int_Mi, optR_some, md, bindFl_ok, List.set_cons_zero, List.set_cons_succ, turnFl_nx]
      rw [e]
      exact h1
    · rw [h2]
      have : (((a.fmod ((b + 1 : Nat) : Int)).toNat : Nat) : Int) = a.fmod ((b + 1 : Nat) : Int) := e.symm
      have q : ((b + 1 : Nat) : Int).natAbs.gcd (a.fmod ((b + 1 : Nat) : Int)).toNat = Int.gcd ((b + 1 : Nat) : Int) (a.fmod ((b + 1 : Nat) : Int)) := by
        unfold Int.gcd
        congr 1
        omega
      rw [q, Int.fmod_eq_emod_of_nonneg _ (by omega), gcd_mod]
      unfold Int.gcd
      rw [Nat.gcd_comm]
      rfl
theorem common_ok {a : Int} {b : Nat} {h : MH} (l : b < 1000000) : F__law_common [.int a, .int b] h = .ok (.int (a.natAbs.gcd b : Nat)) h := by
  unfold F__law_common b__law_common
  rw [bodyF_at]
  obtain ⟨g, h1, h2⟩ := common_loop (h := h) 1000000 b a l
  have e : absM h [.int g] = some (.int (a.natAbs.gcd b : Nat)) := by
    unfold absM
    dsimp only
    rw [← h2]
    congr 2
    split <;> omega
  simp only [seqS_at, List.map_cons, List.map_nil]
  show endFl (seqFl (whileL _ _ 1000000 [.val (.int a), .val (.int b)] h) _) = _
  rw [h1]
  simp [e]
theorem fr_gcd {a b : Int} (hb : 0 < b) : MV.tup [.int (a.fdiv ((a.natAbs.gcd b.natAbs : Nat) : Int)), .int (b.fdiv ((a.natAbs.gcd b.natAbs : Nat) : Int))] = fr (Rat.divInt a b) := by
  unfold fr
  rw [Rat.num_divInt, Rat.den_divInt, if_neg (by omega), Int.sign_eq_one_of_pos hb, Int.one_mul]
  have e : (b.gcd a : Nat) = a.natAbs.gcd b.natAbs := by
    unfold Int.gcd
    exact Nat.gcd_comm _ _
  rw [e]
  have e1 : a.fdiv ((a.natAbs.gcd b.natAbs : Nat) : Int) = a / ((a.natAbs.gcd b.natAbs : Nat) : Int) := Int.fdiv_eq_ediv_of_nonneg _ (by omega)
  have e2 : b.fdiv ((a.natAbs.gcd b.natAbs : Nat) : Int) = ((b.natAbs / (a.natAbs.gcd b.natAbs) : Nat) : Int) := by
    rw [Int.fdiv_eq_ediv_of_nonneg _ (by omega), Int.natCast_ediv]
    have : ((b.natAbs : Nat) : Int) = b := by omega
    rw [this]
  simp [e1, e2]
theorem out_ok {t : T3} {h : MH} (hw : 0 < t.2.2) (l : t.2.2 < 1000000) : F__law_out [trv t] h = .ok (pq (toPt t)) h := by
  unfold F__law_out b__law_out
  rw [bodyF_at]
  have z : zl = 16777216 := rfl
  obtain ⟨x, y, w⟩ := t
  dsimp only at hw l
  have en : w = ((w.toNat : Nat) : Int) := by omega
  have c1 := common_ok (a := x) (b := w.toNat) (h := h) (by omega)
  have c2 := common_ok (a := y) (b := w.toNat) (h := h) (by omega)
  rw [← en] at c1 c2
  have wa : w.toNat = w.natAbs := by omega
  rw [wa] at c1 c2
  have nz : ∀ x : Int, ((x.natAbs.gcd w.natAbs : Nat) : Int) ≠ 0 := by
    intro x
    have : 0 < x.natAbs.gcd w.natAbs := Nat.gcd_pos_of_pos_right _ (by omega)
    omega
  have sz : ∀ x : Int, Sz 20 ((x.natAbs.gcd w.natAbs : Nat) : Int) := by
    intro x
    have := Nat.le_of_dvd (by omega) (Nat.gcd_dvd_right x.natAbs w.natAbs)
    unfold Sz
    simp only [Int.natAbs_natCast]
    omega
  have sl : slM none (some 2) h (.tup [.int x, .int y, .int w]) = some (.tup [.int x, .int y]) := by rfl
  simp [trv, sl]
  rw [forL_cons (ht := rfl)]
  simp [trv, c1, div_Mi (nz x) (sz x), app_M, z]
  rw [forL_cons (ht := rfl)]
  simp [trv, c2, div_Mi (nz y) (sz y), app_M, z]
  unfold pq toPt
  dsimp only
  rw [← fr_gcd hw, ← fr_gcd hw]
end K84
end P_Q12
section P_Q13
set_option Elab.async false
set_option linter.all false
set_option maxRecDepth 100000
set_option maxHeartbeats 4000000
set_option exponentiation.threshold 10000
namespace Mi
open PySem PySem.Spec PyProof.Rows L2 TL
theorem ix_ref {h : MH} {r : Nat} {xs : List MV} (i : Int) (hr : h.get r = some (.lst xs)) : ixDM h (.ref r) (.int i) = atI xs i := by
  unfold ixDM ixM
  dsimp only
  rw [hr]
theorem setIxS_at (fe fo fi : EM) (σ : Sl) (h : MH) : setIxS fe fo fi σ h = bindFl (bindR (fe σ h) fun v h1 => bindR (fo σ h1) fun x h2 => bindR (fi σ h2) fun y h3 => match x, y with
  | .ref n, .int k => (match h3.get n with
    | some (.lst xs) => (match ixN xs.length k with
      | some j => .ok () (h3.put n (.lst (xs.set j v)))
      | none => .no)
    | none => .no)
  | _, _ => .no) σ fun _ h' => .nx σ h' := by
  unfold setIxS
  rw [bindS_at]
  rfl
theorem setIx_ok {fe fo fi : EM} {σ : Sl} {h : MH} {v : MV} {r : Nat} {k : Int} {xs : List MV} {j : Nat} (h1 : fe σ h = .ok v h) (h2 : fo σ h = .ok (.ref r) h) (h3 : fi σ h = .ok (.int k) h) (hr : h.get r = some (.lst xs)) (hj : ixN xs.length k = some j) : setIxS fe fo fi σ h = .nx σ (h.put r (.lst (xs.set j v))) := by
  rw [setIxS_at, h1]
  simp only [bindR_ok]
  rw [h2]
  simp only [bindR_ok]
  rw [h3]
  simp only [bindR_ok]
  rw [hr]
  dsimp only
  rw [hj]
  rfl
theorem Sz.of {n : Nat} {x : Int} (h0 : 0 ≤ x) (h1 : x < ((2 ^ n : Nat) : Int)) : Sz n x := by
  unfold Sz
  omega
theorem allM_ints : ∀ ns : List Int, allM unInt (ns.map .int) = some ns
  | [] => rfl
  | n :: ns => by
    rw [List.map_cons]
    unfold allM
    rw [allM_ints ns]
    rfl
end Mi
namespace K84
open PySem PySem.Spec PyProof.Rows L2 Mi TL

structure Prs (B : Nat) (a b c d : Int) : Prop where
  a0 : 0 ≤ a
  a1 : Sz 1600 a
  b0 : 0 ≤ b
  b1 : b < 2147483648
  c0 : 0 ≤ c
  c1 : c ≤ B
  d0 : 0 ≤ d
  d1 : d < 64
def PurseOk (h : MH) (r B : Nat) : Prop := ∃ a b c d : Int, h.get r = some (.lst [.int a, .int b, .int c, .int d]) ∧ Prs B a b c d
def HOk (h : MH) (N B : Nat) : Prop := h.nx = N ∧ ∀ r, r < N → PurseOk h r B
theorem PurseOk.up {h : MH} {r B C : Nat} (p : PurseOk h r B) (l : B ≤ C) : PurseOk h r C := by
  obtain ⟨a, b, c, d, e, q⟩ := p
  exact ⟨a, b, c, d, e, ⟨q.a0, q.a1, q.b0, q.b1, q.c0, by have := q.c1; omega, q.d0, q.d1⟩⟩
theorem HOk.up {h : MH} {N B C : Nat} (p : HOk h N B) (l : B ≤ C) : HOk h N C := ⟨p.1, fun r hr => (p.2 r hr).up l⟩
theorem HOk.put {h : MH} {N B r : Nat} {a b c d : Int} (p : HOk h N B) (hr : r < N) (q : Prs B a b c d) : HOk (h.put r (.lst [.int a, .int b, .int c, .int d])) N B := by
  refine ⟨p.1, fun k hk => ?_⟩
  by_cases e : k = r
  · subst e
    exact ⟨a, b, c, d, by show (if k = k then _ else _) = _; rw [if_pos rfl], q⟩
  · obtain ⟨a', b', c', d', e', q'⟩ := p.2 k hk
    exact ⟨a', b', c', d', by show (if k = r then _ else h.get k) = _; rw [if_neg e]; exact e', q'⟩
theorem mixed_ok {s c d : Int} {h : MH} (s0 : 0 ≤ s) (s1 : s < 2147483648) (c0 : 0 ≤ c) (c1 : c < 1048576) (d0 : 0 ≤ d) (d1 : d < 64) : ∃ r, F__law_mixed [.int s, .int c, .int d] h = .ok (.int r) h ∧ 0 ≤ r ∧ r < 2147483648 := by
  have zs : Sz 31 s := Sz.of s0 (by simpa using s1)
  have zc : Sz 20 c := Sz.of c0 (by simpa using c1)
  have zd : Sz 6 d := Sz.of d0 (by simpa using d1)
  have k1 : Sz 17 (69069 : Int) := by unfold Sz; decide
  have k2 : Sz 17 (104729 : Int) := by unfold Sz; decide
  have k3 : Sz 13 (7919 : Int) := by unfold Sz; decide
  have k4 : Sz 16 (48271 : Int) := by unfold Sz; decide
  have m1 := mul_M (h := h) zs k1
  have m2 := mul_M (h := h) k2 zc
  have m3 := mul_M (h := h) (k2.mul zc) zc
  have m4 := mul_M (h := h) k3 zd
  generalize hx : (s * 69069 + 104729 * c * c + 7919 * d + c).fmod 2147483647 = x
  have x0 : 0 ≤ x := by rw [← hx]; exact Int.fmod_nonneg_of_pos _ (by decide)
  have x1 : x < 2147483647 := by rw [← hx]; exact Int.fmod_lt_of_pos _ (by decide)
  have zx : Sz 31 x := Sz.of x0 (by simp; omega)
  have m5 := mul_M (h := h) zx zx
  generalize hy : (x * x + 40503).fmod 2147483629 = y
  have y0 : 0 ≤ y := by rw [← hy]; exact Int.fmod_nonneg_of_pos _ (by decide)
  have y1 : y < 2147483629 := by rw [← hy]; exact Int.fmod_lt_of_pos _ (by decide)
  have zy : Sz 31 y := Sz.of y0 (by simp; omega)
  have m6 := mul_M (h := h) zy k4
  refine ⟨(y * 48271).fmod 2147483587, ?_, Int.fmod_nonneg_of_pos _ (by decide), ?_⟩
  · unfold F__law_mixed b__law_mixed
    rw [bodyF_at]
    simp [m1, m2, m3, m4, hx, m5, hy, m6]
  · have := Int.fmod_lt_of_pos (y * 48271) (show (0 : Int) < 2147483587 by decide)
    omega
theorem bits_small {m : Nat} (h : m < 2 ^ 27) : ((Builtin.Int.intBits (m : Int) : Nat) : Int).fdiv 28 = 0 := by
  have : Builtin.Int.intBits (m : Int) ≤ 27 := by
    unfold Builtin.Int.intBits
    by_cases c : m = 0
    · subst c
      decide
    · have e : ((m : Int) == 0) = false := beq_eq_false_iff_ne.mpr (by omega)
      rw [e]
      simp only [Bool.false_eq_true, if_false, Int.natAbs_natCast]
      have := (Nat.log2_lt c).mpr h
      omega
  rw [Int.fdiv_eq_ediv_of_nonneg _ (by decide)]
  omega
/-- a draw -/
theorem draw_ok {h : MH} {N B r m : Nat} (H : HOk h N B) (hr : r < N) (hB : B < 1000000) (m0 : 0 < m) (m1 : m < 1000) : ∃ d : Nat, ∃ h', F__law_draw [.ref r, .int m] h = .ok (.int d) h' ∧ d < m ∧ HOk h' N (B + 1) := by
  obtain ⟨a, b, c, d, e, q⟩ := H.2 r hr
  have H := H.up (by omega : B ≤ B + 1)
  have mz : (m : Int) ≠ 0 := by omega
  have md : ∀ (x : Int) (h : MH), modM h (.int x) (.int m) = some (.int (x.fmod m)) := fun x h => mod_Mi x m h mz
  have rg : ∀ x : Int, ∃ d : Nat, x.fmod m = (d : Int) ∧ d < m := by
    intro x
    have h1 := Int.fmod_nonneg_of_pos x (show (0 : Int) < m by omega)
    have h2 := Int.fmod_lt_of_pos x (show (0 : Int) < m by omega)
    exact ⟨(x.fmod m).toNat, by omega, by omega⟩
  by_cases pos : 0 < a
  · obtain ⟨x, hx, hl⟩ := rg a
    have dv : divM h (.int a) (.int m) = some (.int (a.fdiv m)) := div_Mi (n := 10) mz (Sz.of (by omega) (by simp; omega))
    refine ⟨x, h.put r (.lst [.int (a.fdiv m), .int b, .int c, .int d]), ?_, hl, H.put hr ⟨?_, ?_, q.b0, q.b1, q.c0, by have := q.c1; omega, q.d0, q.d1⟩⟩
    · unfold F__law_draw b__law_draw
      rw [bodyF_at]
      simp [ix_ref 0 e, pos, md]
      rw [setIx_ok (v := .int (a.fdiv m)) (r := r) (k := 0) (xs := [.int a, .int b, .int c, .int d]) (j := 0) (by
        simp [ix_ref 0 e, dv]) (by simp) (by simp) e (by rfl)]
      simp [hx]
    · rw [Int.fdiv_eq_ediv_of_nonneg _ (by omega)]
      exact Int.ediv_nonneg q.a0 (by omega)
    · refine q.a1.le ?_
      rw [Int.fdiv_eq_ediv_of_nonneg _ (by omega)]
      exact Int.natAbs_ediv_le_natAbs a m
  · have q0 := q.a0
    have a0 : a = 0 := by omega
    subst a0
    have c0 := q.c0
    have c1 := q.c1
    obtain ⟨y, hy, y0, y1⟩ := mixed_ok (h := h.put r (.lst [.int 0, .int b, .int (c + 1), .int d])) q.b0 q.b1 (show 0 ≤ c + 1 by omega) (show c + 1 < 1048576 by omega) q.d0 q.d1
    obtain ⟨x, hx, hl⟩ := rg y
    have bs := bits_small (m := m) (by omega)
    have dv : divM h (.int (Builtin.Int.intBits (m : Int) : Nat)) (.int 28) = some (.int 0) := by
      rw [div_Mi (n := 10) (by decide) (by unfold Sz; decide), bs]
    have r1 : rng1M [.int 1] = some [.int 0] := rfl
    have e' : (h.put r (.lst [.int 0, .int b, .int (c + 1), .int d])).get r = some (.lst [.int 0, .int b, .int (c + 1), .int d]) := by
      show (if r = r then _ else _) = _
      rw [if_pos rfl]
    have ml : mulM (h.put r (.lst [.int 0, .int b, .int (c + 1), .int d])) (.int 0) (.int 2147483587) = some (.int 0) := by
      rw [mul_M (m := 1) (n := 31) (by unfold Sz; decide) (by unfold Sz; decide)]
      rfl
    refine ⟨x, h.put r (.lst [.int 0, .int b, .int (c + 1), .int d]), ?_, hl, H.put hr ⟨Int.le_refl _, by unfold Sz; exact Nat.pow_pos (by decide), q.b0, q.b1, by omega, by omega, q.d0, q.d1⟩⟩
    unfold F__law_draw b__law_draw
    rw [bodyF_at]
    simp [ix_ref 0 e, pos, bitsM, dv, r1]
    rw [forL_cons (ht := rfl)]
    simp only [seqS_at, List.set_cons_succ, List.set_cons_zero]
    rw [setIx_ok (v := .int (c + 1)) (r := r) (k := 2) (xs := [.int 0, .int b, .int c, .int d]) (j := 2) (by
        simp [ix_ref 2 e]) (by simp) (by simp) e (by rfl)]
    simp [ix_ref 1 e', ix_ref 2 e', ix_ref 3 e', hy, ml, md, hx]
end K84
end P_Q13
section P_Q14
set_option Elab.async false
set_option linter.all false
set_option maxRecDepth 100000
set_option maxHeartbeats 4000000
set_option exponentiation.threshold 10000
namespace Mi
open PySem PySem.Spec PyProof.Rows L2 TL
theorem ne_nil {α : Type} {f : α → MV} {xs : List α} {h : MH} (ok : ∀ x ∈ xs, okV 39 (f x) = true) : neM h (.lst (xs.map f)) (.lst []) = some (.bl (!xs.isEmpty)) := by
  unfold neM
  rw [if_pos ⟨by
    show (xs.map f).all (okV 39) = true
    rw [List.all_eq_true]
    intro m hm
    obtain ⟨x, hx, rfl⟩ := List.mem_map.mp hm
    exact ok x hx, rfl⟩]
  cases xs <;> rfl
/-- .. over a list's own items -/
theorem forL_findM {α : Type} {t : Tgt} {b : SM} (em : α → MV) (I : Sl → Prop) (ans : α → Option MV) (h : MH) :
    ∀ (xs : List α) (σ : Sl), (∀ x ∈ xs, ∀ σ, I σ → ∃ σ1, t (em x) σ = some σ1 ∧ match ans x with
      | none => ∃ σ2, b σ1 h = .nx σ2 h ∧ I σ2
      | some m => b σ1 h = .rt m h) → I σ → match xs.findSome? ans with
      | none => ∃ σ', forL t b (xs.map em) σ h = .nx σ' h ∧ I σ'
      | some m => forL t b (xs.map em) σ h = .rt m h
  | [], σ, _, i => ⟨σ, rfl, i⟩
  | x :: xs, σ, step, i => by
    obtain ⟨σ1, h1, q⟩ := step x List.mem_cons_self σ i
    rw [List.findSome?_cons, List.map_cons]
    cases c : ans x with
    | none =>
      rw [c] at q
      obtain ⟨σ2, e, i2⟩ := q
      have ih := forL_findM em I ans h xs σ2 (fun y hy => step y (List.mem_cons_of_mem _ hy)) i2
      dsimp only
      cases d : xs.findSome? ans with
      | none =>
        rw [d] at ih
        obtain ⟨σ', e', i'⟩ := ih
        exact ⟨σ', by rw [forL_cons (ht := h1), e]; exact e', i'⟩
      | some m =>
        rw [d] at ih
        dsimp only at ih ⊢
        rw [forL_cons (ht := h1), e]
        exact ih
    | some m =>
      rw [c] at q
      dsimp only at q ⊢
      rw [forL_cons (ht := h1), q]
      rfl
end Mi
namespace K84
open PySem PySem.Spec PyProof.Rows L2 Mi TL

theorem crossB_ok {n : Nat} {a b c d : T3} {h : MH} (ha : Tok n a) (hb : Tok n b) (hc : Tok n c) (hd : Tok n d) (l : n ≤ 1000) : F__law_do_cross [trv a, trv b, trv c, trv d] h = .ok (.bl (crossQ (toPt a) (toPt b) (toPt c) (toPt d))) h := by
  unfold F__law_do_cross b__law_do_cross
  rw [bodyF_at]
  have z : zl = 16777216 := rfl
  have o1 := lawon_ok (h := h) hc ha hb l
  have o2 := lawon_ok (h := h) hd ha hb l
  have o3 := lawon_ok (h := h) ha hc hd l
  have o4 := lawon_ok (h := h) hb hc hd l
  have t1 := lawdet_ok (h := h) ha hb hc l
  have t2 := lawdet_ok (h := h) ha hb hd l
  have t3 := lawdet_ok (h := h) hc hd ha l
  have t4 := lawdet_ok (h := h) hc hd hb l
  have e := compO_filter (vs := [4]) (fi := itAny (wrapL (lstO (consA (varE 2) (consA (varE 3) nilA))))) (t := nameT 4) (c := tstE (callE (callN 3 F__law_on) [] (consA (varE 4) (consA (varE 0) (consA (varE 1) nilA))))) (f := cE (.int 1)) (σ := [SV.val (trv a), SV.val (trv b), SV.val (trv c), SV.val (trv d), SV.un]) (h := h) (xs := [c, d]) trv (fun t => onQ (toPt t) (toPt a) (toPt b)) (fun _ => .int 1) (by simp) (by simp) (by
    intro t ht
    simp only [List.mem_cons, List.not_mem_nil, or_false] at ht
    refine ⟨_, rfl, ?_, fun _ => rfl⟩
    rcases ht with rfl | rfl
    · simp [wipeM, o1]
    · simp [wipeM, o2])
  have nn := ne_nil (f := fun _ : T3 => MV.int 1) (xs := [c, d].filter fun t => onQ (toPt t) (toPt a) (toPt b)) (h := h) (fun _ _ => rfl)
  have em : (!([c, d].filter fun t => onQ (toPt t) (toPt a) (toPt b)).isEmpty) = (onQ (toPt c) (toPt a) (toPt b) || onQ (toPt d) (toPt a) (toPt b)) := by
    simp only [List.filter_cons, List.filter_nil]
    cases onQ (toPt c) (toPt a) (toPt b) <;> cases onQ (toPt d) (toPt a) (toPt b) <;> rfl
  rw [em] at nn
  have ln : lstO nilA [SV.val (trv a), SV.val (trv b), SV.val (trv c), SV.val (trv d), SV.un] h = .ok [] h := by simp
  unfold crossQ
  simp only [List.map_cons, List.map_nil, seqS_at, ifS_at, orT_at, tstE_at, bin2_at, wrapL_at, List.cons_append, List.nil_append]
  rw [show List.replicate (5 - 4) SV.un = [SV.un] from rfl, e]
  simp only [bindR_ok]
  rw [ln]
  simp only [bindR_ok]
  rw [nn]
  cases onQ (toPt c) (toPt a) (toPt b) with
  | true => simp
  | false =>
    cases onQ (toPt d) (toPt a) (toPt b) with
    | true => simp
    | false =>
      simp [o3]
      cases onQ (toPt a) (toPt c) (toPt d) with
      | true => simp
      | false =>
        simp [o4]
        cases onQ (toPt b) (toPt c) (toPt d) with
        | true => simp
        | false =>
          simp [t1, t2]
          by_cases q : sgR (cr (toPt a) (toPt b) (toPt c)) = sgR (cr (toPt a) (toPt b) (toPt d))
          · simp [q]
          · simp [q, t3, t4]
theorem nth_mapG {α β : Type} [Inhabited α] [Inhabited β] (f : α → β) {cs : List α} {i : Nat} (h : i < cs.length) : nth (cs.map f) i = f (nth cs i) := by
  have e := nth_get (cs := cs.map f) (i := i) (by rw [List.length_map]; exact h)
  rw [List.getElem?_map, nth_get h] at e
  exact (Option.some.inj e).symm
/-- a place told back from another -/
theorem atI_back {α : Type} [Inhabited α] (xs : List α) {i k : Nat} (hi : i < xs.length) (hk : k ≤ xs.length) : atI xs ((i : Int) - (k : Int)) = some (nth xs ((i + (xs.length - k)) % xs.length)) := by
  by_cases c : k ≤ i
  · have e : (i : Int) - (k : Int) = ((i - k : Nat) : Int) := by omega
    have e2 : (i + (xs.length - k)) % xs.length = i - k := by
      rw [show i + (xs.length - k) = (i - k) + xs.length by omega, Nat.add_mod_right, Nat.mod_eq_of_lt (by omega)]
    rw [e, atI_n, e2, nth_get (by omega)]
  · have e : (i : Int) - (k : Int) = -((k - i : Nat) : Int) := by omega
    have e2 : (i + (xs.length - k)) % xs.length = xs.length - (k - i) := by
      rw [Nat.mod_eq_of_lt (by omega)]
      omega
    rw [e, atI_neg _ _ (by omega) (by omega), e2, nth_get (by omega)]
def C3 (cs : List T3) (i : Nat) : T3 := nth cs (i % cs.length)
theorem C3_Cy {cs : List T3} (h : 0 < cs.length) (i : Nat) : Cy (cs.map toPt) i = toPt (C3 cs i) := by
  unfold Cy C3
  rw [List.length_map, nth_mapG toPt (Nat.mod_lt _ h)]
theorem C3_mem {cs : List T3} (h : 0 < cs.length) (i : Nat) : C3 cs i ∈ cs := nth_mem (Nat.mod_lt _ h)
theorem fmod_nat (a b : Nat) : ((a : Nat) : Int).fmod (b : Int) = ((a % b : Nat) : Int) := by
  rw [Int.fmod_eq_emod_of_nonneg _ (by omega)]
  exact (Int.natCast_emod a b).symm
def bS2 : SM := ifS (andT (tstE (bin2 neM (bin2 modM (callB intM (consA (bin2 addM (peekE 4) (cE (.int 1))) nilA)) (peekE 1)) (peekE 3))) (tstE (callE (callN 4 F__law_do_cross) [] (consA (bin2 ixDM (bin2 ixDM (peekE 2) (peekE 3)) (cE (.int 0))) (consA (bin2 ixDM (bin2 ixDM (peekE 2) (peekE 3)) (cE (.int 1))) (consA (bin2 ixDM (bin2 ixDM (peekE 2) (peekE 4)) (cE (.int 0))) (consA (bin2 ixDM (bin2 ixDM (peekE 2) (peekE 4)) (cE (.int 1))) nilA))))))) (retS (cE (.bl false))) nextS
def bS1 : SM := forS (nameT 4) (itB rng2M (consA (bin2 addM (peekE 3) (cE (.int 2))) (consA (varE 1) nilA))) bS2
def crossC (cs : List T3) (i j : Nat) : Bool := !decide ((j + 1) % cs.length = i) && crossQ (toPt (C3 cs i)) (toPt (C3 cs (i + 1))) (toPt (C3 cs j)) (toPt (C3 cs (j + 1)))
theorem simple_ok {n : Nat} {cs : List T3} {h : MH} (hc : Tc n cs) (l : n ≤ 1000) (lc : cs.length ≤ 1000) : ∃ b, F__law_is_simple [ct cs] h = .ok (.bl b) h ∧ (b = true → Good (cs.map toPt)) := by
  have z : zl = 16777216 := rfl
  have lct : (cs.map trv).length = cs.length := List.length_map ..
  by_cases l3 : cs.length < 3
  · refine ⟨false, ?_, fun h => by cases h⟩
    unfold F__law_is_simple b__law_is_simple
    rw [bodyF_at]
    have : ((cs.length : Int) < 3) := by omega
    simp [ct, this]
  have n0 : 0 < cs.length := by omega
  have r1 := rng1_nat (n := cs.length) (by omega)
  have l3' : ¬ ((cs.length : Int) < 3) := by omega
  have g3 := fun i (hi : i < cs.length) => show atI (cs.map trv) (i : Int) = some (trv (C3 cs i)) by
    unfold C3
    rw [atI_n, List.getElem?_map, Nat.mod_eq_of_lt hi, nth_get hi]
    rfl
  have gk := fun i (hi : i < cs.length) k (hk : k ≤ cs.length) => show atI (cs.map trv) ((i : Int) - (k : Int)) = some (trv (C3 cs (i + (cs.length - k)))) by
    rw [atI_back _ (by rw [lct]; exact hi) (by rw [lct]; exact hk), lct, nth_mapG trv (Nat.mod_lt _ n0)]
    rfl
  have e1 := compO_filter (vs := [3]) (fi := itB rng1M (consA (varE 1) nilA)) (t := nameT 3) (c := tstE (bin2 eqM (callE (callN 3 F__law_det) [] (consA (bin2 ixDM (peekE 0) (bin2 subM (peekE 3) (cE (.int 2)))) (consA (bin2 ixDM (peekE 0) (bin2 subM (peekE 3) (cE (.int 1)))) (consA (bin2 ixDM (peekE 0) (peekE 3)) nilA)))) (cE (.int 0)))) (f := varE 3) (σ := [SV.val (ct cs), SV.val (.int cs.length), SV.un, SV.un, SV.un]) (h := h) (xs := List.range cs.length) (fun i : Nat => .int i) (fun i => decide (cr (toPt (C3 cs (i + (cs.length - 2)))) (toPt (C3 cs (i + (cs.length - 1)))) (toPt (C3 cs i)) = 0)) (fun i : Nat => .int i)
    (by simp [r1]) (by rw [List.length_range]; omega) (by
      intro i hi
      have hi := List.mem_range.mp hi
      refine ⟨_, rfl, ?_, fun _ => by simp [wipeM]⟩
      have t := lawdet_ok (h := h) (hc _ (C3_mem n0 (i + (cs.length - 2)))) (hc _ (C3_mem n0 (i + (cs.length - 1)))) (hc _ (C3_mem n0 i)) l
      have a1 := gk i hi 2 (by omega)
      have a2 := gk i hi 1 (by omega)
      have a3 := g3 i hi
      simp at a1 a2
      simp [wipeM, ct, a1, a2, a3, t, sgR_zero])
  have nn := ne_nil (f := fun i : Nat => MV.int i) (xs := (List.range cs.length).filter fun i => decide (cr (toPt (C3 cs (i + (cs.length - 2)))) (toPt (C3 cs (i + (cs.length - 1)))) (toPt (C3 cs i)) = 0)) (h := h) (fun _ _ => rfl)
  have ln : lstO nilA [SV.val (ct cs), SV.val (.int cs.length), SV.un, SV.un, SV.un] h = .ok [] h := by simp
  have lenc : lenM h [ct cs] = some (.int cs.length) := by simp [ct]
  have head : ∀ rest : SM, (seqS (setS 1 (callB lenM (consA (peekE 0) nilA))) (seqS (ifS (orT (tstE (bin2 ltM (peekE 1) (cE (.int 3)))) (tstE (bin2 neM (wrapL (compO [3] (itB rng1M (consA (varE 1) nilA)) (nameT 3) (tstE (bin2 eqM (callE (callN 3 F__law_det) [] (consA (bin2 ixDM (peekE 0) (bin2 subM (peekE 3) (cE (.int 2)))) (consA (bin2 ixDM (peekE 0) (bin2 subM (peekE 3) (cE (.int 1)))) (consA (bin2 ixDM (peekE 0) (peekE 3)) nilA)))) (cE (.int 0)))) (varE 3))) (wrapL (lstO nilA))))) (retS (cE (.bl false))) nextS) rest)) [SV.val (ct cs), SV.un, SV.un, SV.un, SV.un] h
      = if ((List.range cs.length).filter fun i => decide (cr (toPt (C3 cs (i + (cs.length - 2)))) (toPt (C3 cs (i + (cs.length - 1)))) (toPt (C3 cs i)) = 0)).isEmpty = true then rest [SV.val (ct cs), SV.val (.int cs.length), SV.un, SV.un, SV.un] h else .rt (.bl false) h := by
    intro rest
    simp only [seqS_at, setS_at, callB_at, consA_at, nilA_at, peekE_at, List.getElem?_cons_zero, bindR_ok, lenc, optR_some, bindFl_ok, List.set_cons_succ, List.set_cons_zero, seqFl_nx, ifS_at, orT_at, tstE_at, bin2_at, List.getElem?_cons_succ, cE_at, lt_Mi, l3', decide_false, Bool.false_eq_true, if_false, wrapL_at]
    rw [e1]
    simp only [bindR_ok]
    rw [ln]
    simp only [bindR_ok]
    rw [nn]
    cases ((List.range cs.length).filter fun i => decide (cr (toPt (C3 cs (i + (cs.length - 2)))) (toPt (C3 cs (i + (cs.length - 1)))) (toPt (C3 cs i)) = 0)).isEmpty <;> simp
  by_cases em : ((List.range cs.length).filter fun i => decide (cr (toPt (C3 cs (i + (cs.length - 2)))) (toPt (C3 cs (i + (cs.length - 1)))) (toPt (C3 cs i)) = 0)).isEmpty = true
  case neg =>
    refine ⟨false, ?_, fun h => by cases h⟩
    unfold F__law_is_simple b__law_is_simple
    rw [bodyF_at]
    show endFl ((seqS _ (seqS _ _)) [SV.val (ct cs), SV.un, SV.un, SV.un, SV.un] h) = _
    rw [head, if_neg em]
    rfl
  have st : ∀ i, i < cs.length → cr (toPt (C3 cs (i + (cs.length - 2)))) (toPt (C3 cs (i + (cs.length - 1)))) (toPt (C3 cs i)) ≠ 0 := by
    intro i hi c
    have : i ∈ (List.range cs.length).filter fun i => decide (cr (toPt (C3 cs (i + (cs.length - 2)))) (toPt (C3 cs (i + (cs.length - 1)))) (toPt (C3 cs i)) = 0) := List.mem_filter.mpr ⟨List.mem_range.mpr hi, by simpa using c⟩
    rw [List.isEmpty_iff.mp em] at this
    cases this
  have sd := sides_ok (cs := cs) (h := h) lc
  -- one turn
  have inner : ∀ i, i < cs.length → ∀ s4, match (List.range (cs.length - (i + 2))).findSome? (fun k => if crossC cs i (i + 2 + k) = true then some (MV.bl false) else none) with
      | none => ∃ s4', bS1 [SV.val (ct cs), SV.val (.int cs.length), SV.val (.lst ((walls cs).map wt)), SV.val (.int i), s4] h = .nx [SV.val (ct cs), SV.val (.int cs.length), SV.val (.lst ((walls cs).map wt)), SV.val (.int i), s4'] h
      | some m => bS1 [SV.val (ct cs), SV.val (.int cs.length), SV.val (.lst ((walls cs).map wt)), SV.val (.int i), s4] h = .rt m h := by
    intro i hi s4
    have r2 := rng2_nat (a := i + 2) (b := cs.length) (by omega) (by omega)
    have f := forL_findM (t := nameT 4) (b := bS2) (fun k : Nat => .int ((i + 2 + k : Nat) : Int)) (fun σ => ∃ s, σ = [SV.val (ct cs), SV.val (.int cs.length), SV.val (.lst ((walls cs).map wt)), SV.val (.int i), s]) (fun k => if crossC cs i (i + 2 + k) = true then some (MV.bl false) else none) h (List.range (cs.length - (i + 2))) [SV.val (ct cs), SV.val (.int cs.length), SV.val (.lst ((walls cs).map wt)), SV.val (.int i), s4]
      (by
        rintro k hk σ ⟨s, rfl⟩
        refine ⟨_, rfl, ?_⟩
        have hk := List.mem_range.mp hk
        have hk : i + 2 + k < cs.length := by omega
        have w1 : atI ((walls cs).map wt) (i : Int) = some (wt (C3 cs i, C3 cs (i + 1))) := by
          rw [atI_n, List.getElem?_map, walls_get hi]
          unfold C3
          rw [Nat.mod_eq_of_lt hi]
          rfl
        have w2 : atI ((walls cs).map wt) ((i + 2 + k : Nat) : Int) = some (wt (C3 cs (i + 2 + k), C3 cs (i + 2 + k + 1))) := by
          rw [atI_n, List.getElem?_map, walls_get hk]
          unfold C3
          rw [Nat.mod_eq_of_lt hk]
          rfl
        have cb := crossB_ok (h := h) (hc _ (C3_mem n0 i)) (hc _ (C3_mem n0 (i + 1))) (hc _ (C3_mem n0 (i + 2 + k))) (hc _ (C3_mem n0 (i + 2 + k + 1))) l
        have md : modM h (.int (((i + 2 + k : Nat) : Int) + 1)) (.int cs.length) = some (.int (((i + 2 + k + 1) % cs.length : Nat) : Int)) := by
          rw [mod_Mi _ _ _ (by omega), ← fmod_nat]
          rfl
        have ne : ((((i + 2 + k + 1) % cs.length : Nat) : Int) == (i : Int)) = decide ((i + 2 + k + 1) % cs.length = i) := by
          by_cases c : (i + 2 + k + 1) % cs.length = i
          · rw [c]; simp
          · have : ¬ (((i + 2 + k + 1) % cs.length : Nat) : Int) = (i : Int) := fun h => c (Int.ofNat.inj h)
            rw [beq_eq_false_iff_ne.mpr this]
            simp [c]
        have nem : neM h (.int (((i + 2 + k + 1) % cs.length : Nat) : Int)) (.int i) = some (.bl (!decide ((i + 2 + k + 1) % cs.length = i))) := by
          rw [ne_Mi, ne]
        generalize (((i + 2 + k + 1) % cs.length : Nat) : Int) = mm at md nem
        generalize hj : ((i + 2 + k : Nat) : Int) = jj at *
        unfold crossC bS2
        by_cases c : (i + 2 + k + 1) % cs.length = i
        · simp only [c, decide_true, Bool.not_true, Bool.false_and, Bool.false_eq_true, if_false] at nem ⊢
          refine ⟨[SV.val (ct cs), SV.val (.int cs.length), SV.val (.lst ((walls cs).map wt)), SV.val (.int i), SV.val (.int jj)], ?_, _, rfl⟩
          simp [md, nem, -ne_Mi]
        · simp only [c, decide_false, Bool.not_false, Bool.true_and] at nem ⊢
          by_cases cq : crossQ (toPt (C3 cs i)) (toPt (C3 cs (i + 1))) (toPt (C3 cs (i + 2 + k))) (toPt (C3 cs (i + 2 + k + 1))) = true
          · simp only [cq, if_true]
            simp [md, nem, -ne_Mi, w1, w2, wt, cb, cq, -List.map_map]
          · simp only [cq, Bool.false_eq_true, if_false]
            refine ⟨[SV.val (ct cs), SV.val (.int cs.length), SV.val (.lst ((walls cs).map wt)), SV.val (.int i), SV.val (.int jj)], ?_, _, rfl⟩
            simp [md, nem, -ne_Mi, w1, w2, wt, cb, cq, -List.map_map])
      ⟨_, rfl⟩
    have e0 : bS1 [SV.val (ct cs), SV.val (.int cs.length), SV.val (.lst ((walls cs).map wt)), SV.val (.int i), s4] h = forL (nameT 4) bS2 ((List.range (cs.length - (i + 2))).map fun k : Nat => .int ((i + 2 + k : Nat) : Int)) [SV.val (ct cs), SV.val (.int cs.length), SV.val (.lst ((walls cs).map wt)), SV.val (.int i), s4] h := by
      unfold bS1
      simp at r2
      simp [r2]
    rw [e0]
    revert f
    generalize (List.range (cs.length - (i + 2))).findSome? _ = an
    intro f
    cases an with
    | some m => exact f
    | none =>
      obtain ⟨σ', h1, s, rfl⟩ := f
      exact ⟨s, h1⟩
  have f := forL_findM (t := nameT 3) (b := bS1) (fun i : Nat => .int i) (fun σ => ∃ s3 s4, σ = [SV.val (ct cs), SV.val (.int cs.length), SV.val (.lst ((walls cs).map wt)), s3, s4]) (fun i => (List.range (cs.length - (i + 2))).findSome? (fun k => if crossC cs i (i + 2 + k) = true then some (MV.bl false) else none)) h (List.range cs.length) [SV.val (ct cs), SV.val (.int cs.length), SV.val (.lst ((walls cs).map wt)), .un, .un]
    (by
      rintro i hi σ ⟨s3, s4, rfl⟩
      refine ⟨_, rfl, ?_⟩
      have q := inner i (List.mem_range.mp hi) s4
      revert q
      generalize (List.range (cs.length - (i + 2))).findSome? _ = an
      intro q
      cases an with
      | some m => exact q
      | none =>
        obtain ⟨s, h1⟩ := q
        exact ⟨_, h1, _, _, rfl⟩) ⟨_, _, rfl⟩
  have body : F__law_is_simple [ct cs] h = endFl (seqFl (forL (nameT 3) bS1 ((List.range cs.length).map fun i : Nat => .int i) [SV.val (ct cs), SV.val (.int cs.length), SV.val (.lst ((walls cs).map wt)), .un, .un] h) fun σ' h' => retS (cE (.bl true)) σ' h') := by
    unfold F__law_is_simple b__law_is_simple
    rw [bodyF_at]
    show endFl ((seqS _ (seqS _ _)) [SV.val (ct cs), SV.un, SV.un, SV.un, SV.un] h) = _
    rw [head, if_pos em]
    simp [sd, r1]
    rfl
  rw [body]
  cases an : (List.range cs.length).findSome? (fun i => (List.range (cs.length - (i + 2))).findSome? (fun k => if crossC cs i (i + 2 + k) = true then some (MV.bl false) else none)) with
  | some m =>
    rw [an] at f
    dsimp only at f
    rw [f]
    obtain ⟨i, _, e⟩ := List.exists_of_findSome?_eq_some an
    obtain ⟨k, _, e⟩ := List.exists_of_findSome?_eq_some e
    split at e
    · cases e
      exact ⟨false, rfl, fun h => by cases h⟩
    · cases e
  | none =>
    rw [an] at f
    obtain ⟨σ', e, s3, s4, rfl⟩ := f
    rw [e]
    refine ⟨true, rfl, fun _ => ?_⟩
    have none_ : ∀ i j, i < cs.length → i + 2 ≤ j → j < cs.length → crossC cs i j = false := by
      intro i j hi hj hl
      have q := List.findSome?_eq_none_iff.mp an i (List.mem_range.mpr hi)
      have q := List.findSome?_eq_none_iff.mp q (j - (i + 2)) (List.mem_range.mpr (by omega))
      rw [show i + 2 + (j - (i + 2)) = j by omega] at q
      cases c : crossC cs i j with
      | false => rfl
      | true =>
        rw [c] at q
        cases q
    refine good_of (by rw [List.length_map]; omega) ?_ ?_
    · intro i hi
      rw [List.length_map] at hi
      rw [C3_Cy n0, C3_Cy n0, C3_Cy n0]
      have q := st ((i + 2) % cs.length) (Nat.mod_lt _ n0)
      have e0 : ∀ a, C3 cs (a % cs.length) = C3 cs a := fun a => by unfold C3; rw [Nat.mod_mod]
      have e1 : ∀ a b, C3 cs (a % cs.length + b) = C3 cs (a + b) := fun a b => by unfold C3; rw [Nat.mod_add_mod]
      have e2 : ∀ a, C3 cs (a + cs.length) = C3 cs a := fun a => by unfold C3; rw [Nat.add_mod_right]
      rw [e0, e1, e1, show i + 2 + (cs.length - 2) = i + cs.length by omega, show i + 2 + (cs.length - 1) = i + 1 + cs.length by omega, e2, e2] at q
      exact q
    · intro i j h1 h2 h3
      rw [List.length_map] at h2 h3 ⊢
      have q := none_ i j (by omega) h1 h2
      have k : ∀ a, nth (cs.map toPt) (a % cs.length) = toPt (C3 cs a) := fun a => by unfold C3; rw [nth_mapG toPt (Nat.mod_lt _ n0)]
      have ki := k i
      have kj := k j
      rw [Nat.mod_eq_of_lt (by omega)] at ki
      rw [Nat.mod_eq_of_lt h2] at kj
      rw [k, k, ki, kj]
      refine cross_meet ?_
      unfold crossC at q
      have ne : ¬ (j + 1) % cs.length = i := by
        intro e
        by_cases c : j + 1 < cs.length
        · rw [Nat.mod_eq_of_lt c] at e
          omega
        · have : j + 1 = cs.length := by omega
          rw [this, Nat.mod_self] at e
          exact h3 ⟨e.symm, by omega⟩
      simpa [ne] using q
end K84
end P_Q14
section P_Q15
set_option Elab.async false
set_option linter.all false
set_option maxRecDepth 100000
set_option maxHeartbeats 4000000
set_option exponentiation.threshold 10000
namespace K84
open PySem PySem.Spec PyProof.Rows L2 Mi TL

/-! twice the area -/
/-- a list of whole points -/
def Raw (k : Nat) (cs : List T3) : Prop := ∀ t ∈ cs, Sz k t.1 ∧ Sz k t.2.1 ∧ t.2.2 = 1
theorem Raw.up {k l : Nat} {cs : List T3} (h : Raw k cs) (kl : k ≤ l) : Raw l cs := fun t ht => ⟨(h t ht).1.up kl, (h t ht).2.1.up kl, (h t ht).2.2⟩
theorem Raw.tok {k : Nat} {cs : List T3} (h : Raw k cs) (k0 : 0 < k) : Tc k cs := fun t ht => ⟨(h t ht).1, (h t ht).2.1, by
  rw [(h t ht).2.2]
  show (1 : Int).natAbs < 2 ^ k
  exact Nat.one_lt_pow (by omega) (by decide), by rw [(h t ht).2.2]; decide⟩
theorem divInt_1 (x : Int) : Rat.divInt x 1 = (x : Rat) := by
  have := cast_mul_div (x := x) (w := 1) (by decide)
  rw [this]
  grind
theorem toPt_1 {t : T3} (h : t.2.2 = 1) : toPt t = ((t.1 : Rat), (t.2.1 : Rat)) := by
  unfold toPt
  rw [h, divInt_1, divInt_1]
def bTw : SM := setS 1 (bin2 subM (bin2 addM (peekE 1) (bin2 mulM (bin2 ixDM (peekE 2) (cE (.int 0))) (bin2 ixDM (peekE 3) (cE (.int 1))))) (bin2 mulM (bin2 ixDM (peekE 3) (cE (.int 0))) (bin2 ixDM (peekE 2) (cE (.int 1)))))
theorem foldl_snoc_dbl (ws : List (Pt × Pt)) (w : Pt × Pt) : (ws ++ [w]).foldl (fun s w => s + (w.1.1 * w.2.2 - w.2.1 * w.1.2)) 0 = ws.foldl (fun s w => s + (w.1.1 * w.2.2 - w.2.1 * w.1.2)) (0 : Rat) + (w.1.1 * w.2.2 - w.2.1 * w.1.2) := by
  rw [List.foldl_append]
  rfl
theorem twice_ok {k : Nat} {cs : List T3} {h : MH} (R : Raw k cs) (l : k ≤ 1000) (lc : cs.length ≤ 1000) : ∃ i : Int, F__law_twice [ct cs] h = .ok (.int i) h ∧ (i : Rat) = dbl (cs.map toPt) := by
  have sd := sides_ok (cs := cs) (h := h) lc
  have R := R.up l
  have mem : ∀ w ∈ walls cs, w.1 ∈ cs ∧ w.2 ∈ cs := by
    intro w hw
    have q := List.of_mem_zip (a := w.1) (b := w.2) hw
    refine ⟨q.1, ?_⟩
    rcases List.mem_append.mp q.2 with z | z
    · exact List.mem_of_mem_tail z
    · exact List.mem_of_mem_take z
  obtain ⟨σ', h', e, rfl, _, i, s2, s3, rfl, hi⟩ := forL_inv (α := T3 × T3) (t := tupT 2 (consT (nameT 2) (consT (nameT 3) nilT))) (b := bTw) wt
    (fun pre post σ h' => h' = h ∧ pre ++ post = walls cs ∧ ∃ (i : Int) (s2 s3 : SV), σ = [.val (ct cs), .val (.int i), s2, s3] ∧ (i : Rat) = (pre.map wp).foldl (fun s w => s + (w.1.1 * w.2.2 - w.2.1 * w.1.2)) 0)
    (by
      rintro pre w post σ h' ⟨rfl, he, i, s2, s3, rfl, hi⟩
      refine ⟨_, rfl, ?_⟩
      have hw : w ∈ walls cs := by rw [← he]; simp
      obtain ⟨a1, a2, a3⟩ := R _ (mem w hw).1
      obtain ⟨b1, b2, b3⟩ := R _ (mem w hw).2
      refine ⟨[.val (ct cs), .val (.int (i + w.1.1 * w.2.2.1 - w.2.1 * w.1.2.1)), .val (trv w.1), .val (trv w.2)], h', .inl ?_, rfl, by simpa using he, _, _, _, rfl, ?_⟩
      · unfold bTw
        simp [trv, mul_M a1 b2, mul_M b1 a2]
      · rw [List.map_append, List.map_cons, List.map_nil, foldl_snoc_dbl, ← hi]
        unfold wp
        rw [toPt_1 a3, toPt_1 b3]
        simp only [Rat.intCast_sub, Rat.intCast_add, Rat.intCast_mul]
        grind)
    (walls cs) [] [.val (ct cs), .val (.int 0), .un, .un] h ⟨rfl, rfl, 0, _, _, rfl, by rfl⟩
  refine ⟨i, ?_, ?_⟩
  · unfold F__law_twice b__law_twice
    rw [bodyF_at]
    unfold bTw at e
    simp [sd, -tupT_at]
    rw [e]
    simp
  · rw [hi]
    simp only [List.nil_append]
    rw [walls_toPt]
    rfl
/-! purses -/
theorem purse_ok {xs : List Int} {at_ : Nat} {h : MH} {N B : Nat} (H : HOk h N B) (ha : at_ < 64) : ∃ h', F__law_purse [.scr (xs.map .int), .int at_] h = .ok (.ref N) h' ∧ HOk h' (N + 1) B := by
  have cl : cutL (xs.map MV.int) (some (at_ : Int)) (some ((at_ : Int) + 1)) = ((xs.take (at_ + 1)).drop at_).map MV.int := by
    have := cutL_mid (xs.map MV.int) at_ (at_ + 1)
    rw [← List.map_take, ← List.map_drop] at this
    exact this
  have sm : sumM h [.lst (cutL (xs.map MV.int) (some (at_ : Int)) (some ((at_ : Int) + 1)))] = some (.int ((xs.take (at_ + 1)).drop at_).sum) := by
    rw [cl]
    unfold sumM onInts
    dsimp only
    rw [seqM_lst]
    dsimp only
    rw [allM_ints]
    rfl
  generalize ((xs.take (at_ + 1)).drop at_).sum = S at sm
  have p1 : powM h (.int 10) (.int 18) = some (.int (10 ^ 18)) := by
    unfold powM Mi.intOp
    exact if_pos (by decide +kernel)
  have p2 : powM h (.int 10) (.int 60) = some (.int (10 ^ 60)) := by
    unfold powM Mi.intOp
    exact if_pos (by decide +kernel)
  have p3 : powM h (.int (10 ^ 60)) (.int 8) = some (.int ((10 ^ 60) ^ 8)) := by
    unfold powM Mi.intOp
    exact if_pos (by decide +kernel)
  have big : (0 : Int) < (10 ^ 60) ^ 8 := by decide +kernel
  have mx : ∃ m : Int, maxM h [.int (S - 10 ^ 18), .int 0] = some (.int m) := ⟨_, rfl⟩
  obtain ⟨m, mx⟩ := mx
  have sl : slM (some (at_ : Int)) (some ((at_ : Int) + 1)) h (.scr (xs.map .int)) = some (.lst (cutL (xs.map MV.int) (some (at_ : Int)) (some ((at_ : Int) + 1)))) := rfl
  have md : modM h (.int m) (.int ((10 ^ 60) ^ 8)) = some (.int (m.fmod ((10 ^ 60) ^ 8))) := mod_Mi _ _ _ (by omega)
  have nx := H.1
  refine ⟨h.push (.lst [.int (m.fmod ((10 ^ 60) ^ 8)), .int (S.fmod 2147483629), .int 0, .int at_]), ?_, ?_, ?_⟩
  · unfold F__law_purse b__law_purse
    rw [bodyF_at]
    generalize hP : ((10 : Int) ^ 60) ^ 8 = P at *
    generalize hQ : ((10 : Int) ^ 60) = Q at *
    generalize hR : ((10 : Int) ^ 18) = R at *
    have nw : ∀ (f : OM) σ h, newE f σ h = bindR (f σ h) fun xs h' => .ok (.ref h'.nx) (h'.push (.lst xs)) := fun _ _ _ => rfl
    simp [sl, sm, p1, p2, p3, mx, md, nw, nx]
  · show h.nx + 1 = N + 1
    rw [nx]
  · intro r hr
    by_cases e : r = N
    · subst e
      refine ⟨m.fmod ((10 ^ 60) ^ 8), S.fmod 2147483629, 0, at_, ?_, ⟨Int.fmod_nonneg_of_pos _ big, ?_, Int.fmod_nonneg_of_pos _ (by decide), ?_, Int.le_refl _, by omega, by omega, by omega⟩⟩
      · show (if r = h.nx then _ else _) = _
        rw [if_pos nx.symm]
      · have b1 := Int.fmod_nonneg_of_pos m big
        have b2 := Int.fmod_lt_of_pos m big
        refine Sz.of b1 (Int.lt_trans b2 (by decide +kernel))
      · have b2 := Int.fmod_lt_of_pos S (show (0 : Int) < 2147483629 by decide)
        omega
    · obtain ⟨a, b, c, d, e', q⟩ := H.2 r (by omega)
      refine ⟨a, b, c, d, ?_, q⟩
      show (if r = h.nx then _ else _) = _
      rw [if_neg (by omega)]
      exact e'
end K84
end P_Q15
section P_Q16
set_option Elab.async false
set_option linter.all false
set_option maxRecDepth 100000
set_option maxHeartbeats 4000000
set_option exponentiation.threshold 10000
namespace K84
open PySem PySem.Spec PyProof.Rows L2 Mi TL

theorem HOk0 : HOk hm0 0 0 := ⟨rfl, fun r h => absurd h (Nat.not_lt_zero _)⟩
theorem purses_ok {ns : List Int} : ∃ h' N, F__law_purses [.scr (ns.map .int), .int 2] hm0 = .ok (.lst ((List.range N).map fun r => .ref r)) h' ∧ HOk h' N 0 ∧ N ≤ 2 := by
  obtain ⟨h1, e1, H1⟩ := purse_ok (xs := ns) (at_ := 0) HOk0 (by decide)
  obtain ⟨h2, e2, H2⟩ := purse_ok (xs := ns) (at_ := 1) H1 (by decide)
  have e1 : F__law_purse [.scr (ns.map .int), .int 0] hm0 = .ok (.ref 0) h1 := e1
  have e2 : F__law_purse [.scr (ns.map .int), .int 1] h1 = .ok (.ref 1) h2 := e2
  have ln : lenM hm0 [.scr (ns.map .int)] = some (.int ns.length) := by
    show some (MV.int _) = _
    rw [List.length_map]
  by_cases c : ns.length < 2
  · refine ⟨h1, 1, ?_, H1, by decide⟩
    unfold F__law_purses b__law_purses
    rw [bodyF_at]
    have mn : minM hm0 [.int 2, .int ns.length] = some (.int ns.length) := by
      show some (MV.int (if ((ns.length : Int)) < 2 then (ns.length : Int) else 2)) = _
      rw [if_pos (by omega)]
    have mx : maxM hm0 [.int 1, .int ns.length] = some (.int 1) := by
      show some (MV.int (if ((ns.length : Int)) > 1 then (ns.length : Int) else 1)) = _
      rw [if_neg (by omega)]
    have r1 : rng1M [.int 1] = some [.int 0] := rfl
    have z : (1 ≤ zl) = True := zlt1
    unfold compO
    simp [ln, mn, mx, r1, wipeM]
    simp [compL, yesT, e1]
  · refine ⟨h2, 2, ?_, H2, by decide⟩
    unfold F__law_purses b__law_purses
    rw [bodyF_at]
    have mn : minM hm0 [.int 2, .int ns.length] = some (.int 2) := by
      show some (MV.int (if ((ns.length : Int)) < 2 then (ns.length : Int) else 2)) = _
      rw [if_neg (by omega)]
    have mx : maxM hm0 [.int 1, .int 2] = some (.int 2) := rfl
    have r1 : rng1M [.int 2] = some [.int 0, .int 1] := rfl
    unfold compO
    simp [ln, mn, mx, r1, wipeM]
    simp [compL, yesT, e1, e2]
    rfl
theorem one_of_ok {h : MH} {N B r : Nat} {xs : List MV} (H : HOk h N B) (hr : r < N) (hB : B < 1000000) (l0 : 0 < xs.length) (l1 : xs.length < 1000) : ∃ m h', F__law_one_of [.ref r, .lst xs] h = .ok m h' ∧ m ∈ xs ∧ HOk h' N (B + 1) := by
  obtain ⟨d, h', e, hd, H'⟩ := draw_ok H hr hB l0 l1
  have g : xs[d]? = some xs[d] := List.getElem?_eq_getElem hd
  refine ⟨xs[d], h', ?_, List.getElem_mem _, H'⟩
  unfold F__law_one_of b__law_one_of
  rw [bodyF_at]
  simp [e, atI_n, g]
theorem ins_M {ys : List MV} {x : MV} {i : Nat} (l : ys.length < zl) (li : i < 1000) : insertM ys [.int i, x] = some (ys.take i ++ [x] ++ ys.drop i) := by
  unfold insertM
  dsimp only
  rw [if_pos ⟨l, by omega, by omega⟩]
  rfl
def bSh : SM := mutS 2 insertM (consA (callE (callN 2 F__law_draw) [] (consA (varE 0) (consA (bin2 addM (callB lenM (consA (peekE 2) nilA)) (cE (.int 1))) nilA))) (consA (varE 3) nilA))
theorem shuffled_ok {h : MH} {N B r : Nat} {xs : List Int} (H : HOk h N B) (hr : r < N) (hB : B + xs.length < 1000000) (l1 : xs.length < 900) : ∃ (ns : List Int) (h' : MH), F__law_shuffled [.ref r, .lst (xs.map .int)] h = .ok (.lst (ns.map .int)) h' ∧ ns.length = xs.length ∧ (∀ n ∈ ns, n ∈ xs) ∧ HOk h' N (B + xs.length) := by
  have z : zl = 16777216 := rfl
  obtain ⟨σ', h', e, ns, s, rfl, _, ln, mem, H'⟩ := forL_inv (α := Int) (t := nameT 3) (b := bSh) (fun i => .int i)
    (fun pre post σ h' => ∃ (ns : List Int) (s : SV), σ = [.val (.ref r), .val (.lst (xs.map .int)), .own (ns.map .int), s] ∧ pre ++ post = xs ∧ ns.length = pre.length ∧ (∀ n ∈ ns, n ∈ pre) ∧ HOk h' N (B + pre.length))
    (by
      rintro pre x post σ h1 ⟨ns, s, rfl, he, ln, mem, H1⟩
      refine ⟨_, rfl, ?_⟩
      have lp : pre.length < xs.length := by rw [← he]; simp
      obtain ⟨d, h2, ed, hd, H2⟩ := draw_ok (m := ns.length + 1) H1 hr (by omega) (by omega) (by omega)
      refine ⟨[.val (.ref r), .val (.lst (xs.map .int)), .own ((ns.take d ++ [x] ++ ns.drop d).map .int), .val (.int x)], h2, .inl ?_, _, _, rfl, by simpa using he, ?_, ?_, by rw [List.length_append]; exact H2.up (by simp; omega)⟩
      · unfold bSh
        rw [mutS_at (ys := ns.map .int) (hy := rfl)]
        have im := ins_M (ys := ns.map .int) (x := .int x) (i := d) (by rw [List.length_map]; omega) (by omega)
        rw [← List.map_take, ← List.map_drop] at im
        have lm : lenM h1 [.lst (ns.map .int)] = some (.int ns.length) := by simp
        simp at ed
        simp [ed, -List.map_take, -List.map_drop]
        rw [im]
        simp
      · simp
        omega
      · intro n hn
        rcases List.mem_append.mp hn with hn | hn
        · rcases List.mem_append.mp hn with hn | hn
          · exact List.mem_append_left _ (mem n (List.mem_of_mem_take hn))
          · exact List.mem_append_right _ hn
        · exact List.mem_append_left _ (mem n (List.mem_of_mem_drop hn)))
    xs [] [.val (.ref r), .val (.lst (xs.map .int)), .own [], .un] h ⟨[], _, rfl, rfl, rfl, by simp, by simpa using H⟩
  refine ⟨ns, h', ?_, by simpa using ln, by simpa using mem, by simpa using H'⟩
  unfold F__law_shuffled b__law_shuffled
  rw [bodyF_at]
  unfold bSh at e
  simp [-mutS_at]
  rw [e]
  simp
def wayL : List (Int × Int) := [(1, 0), (2, 1), (1, 1), (1, 2), (0, 1), (-1, 2), (-1, 1), (-2, 1), (-1, 0), (-2, -1), (-1, -1), (-1, -2), (0, -1), (1, -2), (1, -1), (2, -1)]
theorem ways_ok {h : MH} : F__law_ways [] h = .ok (.lst (wayL.map fun w => .tup [.int w.1, .int w.2])) h := by
  unfold F__law_ways b__law_ways
  rw [bodyF_at]
  simp [wayL]
theorem way_sz : ∀ w ∈ wayL, Sz 2 w.1 ∧ Sz 2 w.2 := by
  unfold wayL Sz
  decide
end K84
end P_Q16
section P_Q17
set_option Elab.async false
set_option linter.all false
set_option maxRecDepth 100000
set_option maxHeartbeats 4000000
set_option exponentiation.threshold 10000
namespace Mi
open PySem PySem.Spec PyProof.Rows L2 TL
@[simp] theorem lrgO_at (op : List MV → Option (List MV)) (fs : OM) (σ : Sl) (h : MH) : lrgO op fs σ h = bindR (fs σ h) fun xs h => match op xs with
  | some ms => if ms.length ≤ zl then .ok ms h else .no
  | none => .no := (rfl)
theorem sorted_M {ns : List Int} {h : MH} : sortedM h [.lst (ns.map .int)] = some ((sortI ns).map .int) := by
  unfold sortedM
  dsimp only
  rw [seqM_lst]
  dsimp only
  rw [allM_ints]
  rfl
theorem max_M {ns : List Int} {h : MH} (ne : ns ≠ []) : ∃ m : Int, maxM h [.lst (ns.map .int)] = some (.int m) := by
  cases ns with
  | nil => exact absurd rfl ne
  | cons n ns =>
    refine ⟨ns.foldl max n, ?_⟩
    show onInts maxL h [.lst ((n :: ns).map .int)] = _
    unfold onInts
    dsimp only
    rw [seqM_lst]
    dsimp only
    rw [allM_ints]
    rfl
end Mi
namespace K84
open PySem PySem.Spec PyProof.Rows L2 Mi TL

def R16 : List Int := [0, 1, 2, 3, 4, 5, 6, 7, 8, 9, 10, 11, 12, 13, 14, 15]
def bSt : SM := (seqS (setS 6 (bin2 addM (cE (.int 1)) (callE (callN 2 F__law_draw) [] (consA (varE 0) (consA (cE (.int 6)) nilA))))) (mutS 4 appendM (consA (tupE (consA (bin2 mulM (bin2 ixDM (bin2 ixDM (callE (callN 0 F__law_ways) [] nilA) (peekE 5)) (cE (.int 0))) (peekE 6)) (consA (bin2 mulM (bin2 ixDM (bin2 ixDM (callE (callN 0 F__law_ways) [] nilA) (peekE 5)) (cE (.int 1))) (peekE 6)) (consA (cE (.int 1)) nilA)))) nilA)))
theorem star_loop {h : MH} {N B r : Nat} {m g : MV} {s7 : SV} {ss : List Int} (H : HOk h N B) (hr : r < N) (hB : B < 900000) (l : ss.length < 100) (hs : ∀ a ∈ ss, 0 ≤ a ∧ a < 16) : ∃ (cs : List T3) (h' : MH) (s5 s6 : SV), forL (nameT 5) bSt (ss.map .int) [.val (.ref r), .val m, .val (.lst (ss.map .int)), .val g, .own [], .un, .un, s7] h = .nx [.val (.ref r), .val m, .val (.lst (ss.map .int)), .val g, .own (cs.map trv), s5, s6, s7] h' ∧ Raw 6 cs ∧ cs.length = ss.length ∧ HOk h' N (B + ss.length) := by
  have z : zl = 16777216 := rfl
  obtain ⟨σ', h', e, cs, s5, s6, rfl, _, R, ln, H'⟩ := forL_inv (α := Int) (t := nameT 5) (b := bSt) (fun i => .int i)
    (fun pre post σ h' => ∃ (cs : List T3) (s5 s6 : SV), σ = [.val (.ref r), .val m, .val (.lst (ss.map .int)), .val g, .own (cs.map trv), s5, s6, s7] ∧ pre ++ post = ss ∧ Raw 6 cs ∧ cs.length = pre.length ∧ HOk h' N (B + pre.length))
    (by
      rintro pre x post σ h1 ⟨cs, s5, s6, rfl, he, R, ln, H1⟩
      refine ⟨_, rfl, ?_⟩
      have lp : pre.length < ss.length := by rw [← he]; simp
      have hx := hs x (by rw [← he]; simp)
      obtain ⟨d, h2, ed, hd, H2⟩ := draw_ok (m := 6) H1 hr (by omega) (by omega) (by omega)
      obtain ⟨w, hw, gw⟩ : ∃ w, w ∈ wayL ∧ atI (wayL.map fun w => MV.tup [.int w.1, .int w.2]) x = some (.tup [.int w.1, .int w.2]) := by
        obtain ⟨k, hk⟩ : ∃ k : Nat, x = (k : Int) := ⟨x.toNat, by omega⟩
        have hl : k < wayL.length := by
          have : wayL.length = 16 := rfl
          omega
        refine ⟨wayL[k], List.getElem_mem _, ?_⟩
        rw [hk, atI_n, List.getElem?_map, List.getElem?_eq_getElem hl]
        rfl
      have sw := way_sz w hw
      have sd : Sz 3 (1 + (d : Int)) := by unfold Sz; omega
      refine ⟨[.val (.ref r), .val m, .val (.lst (ss.map .int)), .val g, .own ((cs ++ [(w.1 * (1 + (d : Int)), w.2 * (1 + (d : Int)), 1)]).map trv), .val (.int x), .val (.int (1 + (d : Int))), s7], h2, .inl ?_, _, _, _, rfl, by simpa using he, ?_, ?_, by rw [List.length_append]; exact H2⟩
      · unfold bSt
        simp at ed
        simp [ed, ways_ok, -mutS_at]
        rw [mutS_at (ys := cs.map trv) (hy := rfl)]
        simp [ways_ok, gw, mul_M sw.1 sd, mul_M sw.2 sd]
        rw [app_M (by rw [List.length_map]; omega)]
        simp [trv]
      · intro t ht
        rcases List.mem_append.mp ht with ht | ht
        · exact R t ht
        · rw [List.mem_singleton.mp ht]
          exact ⟨(sw.1.mul sd).up (by decide), (sw.2.mul sd).up (by decide), rfl⟩
      · rw [List.length_append, List.length_append, ln]
        rfl)
    ss [] [.val (.ref r), .val m, .val (.lst (ss.map .int)), .val g, .own [], .un, .un, s7] h ⟨[], _, _, rfl, rfl, by intro t ht; (cases ht), rfl, by simpa using H⟩
  exact ⟨cs, h', s5, s6, e, R, by simpa using ln, by simpa using H'⟩
theorem star_ok {h : MH} {N B r : Nat} (H : HOk h N B) (hr : r < N) (hB : B < 800000) : ∃ (cs : List T3) (h' : MH), F__law_star [.ref r, .int 9] h = .ok (ct cs) h' ∧ Raw 6 cs ∧ cs.length ≤ 9 ∧ HOk h' N (B + 30) := by
  have z : zl = 16777216 := rfl
  have l16 : R16.length = 16 := rfl
  have m16 : ∀ n ∈ R16, 0 ≤ n ∧ n < 16 := by unfold R16; decide
  have r16 : rng1M [.int 16] = some (R16.map .int) := rfl
  have mx7 : maxM h [.int 7, .int 1] = some (.int 7) := rfl
  obtain ⟨ns, h1, e1, ln, mem, H1⟩ := shuffled_ok (xs := R16) H hr (by omega) (by omega)
  obtain ⟨d, h2, e2, hd, H2⟩ := draw_ok (m := 7) H1 hr (by omega) (by omega) (by omega)
  have mx7' : maxM h1 [.int 7, .int 1] = some (.int 7) := rfl
  have cl : cutL (ns.map MV.int) none (some (3 + (d : Int))) = (ns.take (3 + d)).map .int := by
    have := cutL_to (ns.map MV.int) (3 + d)
    rw [← List.map_take] at this
    rw [← this]
    congr 1
  generalize hss : sortI (ns.take (3 + d)) = ss
  have perm : ss.Perm (ns.take (3 + d)) := hss ▸ sortI_perm _
  have lss : ss.length = 3 + d := by
    rw [perm.length_eq, List.length_take, ln, l16]
    omega
  have mss : ∀ a ∈ ss, 0 ≤ a ∧ a < 16 := fun a ha => m16 a (mem a (List.mem_of_mem_take (perm.mem_iff.mp ha)))
  have so := sorted_M (ns := ns.take (3 + d)) (h := h2)
  rw [hss] at so
  -- the gaps
  have ad : addM h2 (.lst ((ss.map MV.int).tail)) (.lst ((ss.map MV.int).take 1)) = some (.lst ((ss.tail ++ ss.take 1).map .int)) := by
    rw [add_Ml _ _ _ (by simp only [List.length_tail, List.length_take, List.length_map]; omega), List.map_append, List.map_tail, List.map_take]
  have zp : zipL (ss.map MV.int) ((ss.tail ++ ss.take 1).map .int) = (walls ss).map fun w => .tup [.int w.1, .int w.2] := by
    rw [zipL_map]
    rfl
  have gp := compO_data (vs := [5, 7]) (fi := itB zipM (consA (varE 2) (consA (bin2 addM (slV (peekE 2) (prtP (cE (.int 1))) noP) (slV (peekE 2) noP (prtP (cE (.int 1))))) nilA))) (t := tupT 2 (consT (nameT 5) (consT (nameT 7) nilT))) (f := bin2 addM (bin2 modM (callB intM (consA (bin2 subM (bin2 subM (peekE 7) (peekE 5)) (cE (.int 1))) nilA)) (cE (.int 16))) (cE (.int 1)))
    (σ := [.val (.ref r), .val (.int 9), .val (.lst (ss.map .int)), .un, .un, .un, .un, .un]) (h := h2) (xs := walls ss) (fun w => .tup [.int w.1, .int w.2]) (fun w => .int ((w.2 - w.1 - 1).fmod 16 + 1)) (by
      simp [ad, zipM, -List.map_tail, -List.map_take, -List.map_append]
      exact zp) (by rw [walls_len]; omega) (by
      intro w hw
      refine ⟨_, rfl, ?_⟩
      simp [wipeM])
  obtain ⟨mm, hm⟩ := max_M (ns := (walls ss).map fun w => (w.2 - w.1 - 1).fmod 16 + 1) (h := h2) (by
    intro e
    have := congrArg List.length e
    rw [List.length_map, walls_len, lss] at this
    simp at this)
  rw [List.map_map] at hm
  have he : (MV.int ∘ fun w : Int × Int => (w.2 - w.1 - 1).fmod 16 + 1) = fun w => .int ((w.2 - w.1 - 1).fmod 16 + 1) := rfl
  rw [he] at hm
  have fin : ∀ (g : MV) (tt : List Int), tt.length ≤ 9 → (∀ a ∈ tt, 0 ≤ a ∧ a < 16) → ∃ (cs : List T3) (h' : MH), endFl (seqFl (forS (nameT 5) (itAny (varE 2)) bSt [.val (.ref r), .val (.int 9), .val (.lst (tt.map .int)), .val g, .own [], .un, .un, .un] h2) fun σ' h' => fzS 4 (retS (varE 4)) σ' h') = .ok (ct cs) h' ∧ Raw 6 cs ∧ cs.length ≤ 9 ∧ HOk h' N (B + 30) := by
    intro g tt lt ht
    obtain ⟨cs, h', s5, s6, e, R, lc, H'⟩ := star_loop (m := .int 9) (g := g) (s7 := .un) H2 hr (by omega) (by omega) ht
    refine ⟨cs, h', ?_, R, by omega, H'.up (by omega)⟩
    simp
    rw [e]
    simp [ct]
  by_cases c : mm < 8
  · obtain ⟨cs, h', e, rest⟩ := fin (.lst ((walls ss).map fun w => .int ((w.2 - w.1 - 1).fmod 16 + 1))) ss (by omega) mss
    refine ⟨cs, h', ?_, rest⟩
    rw [← e]
    unfold F__law_star b__law_star
    rw [bodyF_at]
    simp at e2
    simp [r16, l16, e1, mx7', e2, cl, so, gp, hm, c, -List.map_take]
    rfl
  · obtain ⟨cs, h', e, rest⟩ := fin (.lst ((walls ss).map fun w => .int ((w.2 - w.1 - 1).fmod 16 + 1))) [0, 4, 8, 12] (by decide) (by decide)
    refine ⟨cs, h', ?_, rest⟩
    rw [← e]
    unfold F__law_star b__law_star
    rw [bodyF_at]
    simp at e2
    simp [r16, l16, e1, mx7', e2, cl, so, gp, hm, c, -List.map_take]
    rfl
end K84
end P_Q17
section P_Q18
set_option Elab.async false
set_option linter.all false
set_option maxRecDepth 100000
set_option maxHeartbeats 4000000
set_option exponentiation.threshold 10000
namespace K84
open PySem PySem.Spec PyProof.Rows L2 Mi TL

def bCo : SM := (seqS (mutS 2 appendM (consA (tupE (consA (bin2 addM (bin2 addM (bin2 mulM (cE (.int 4)) (peekE 4)) (cE (.int 3))) (bin2 mulM (callE (callN 2 F__law_draw) [] (consA (varE 0) (consA (cE (.int 2)) nilA))) (callB intM (consA (bin2 eqM (bin2 addM (peekE 4) (cE (.int 1))) (peekE 1)) nilA)))) (consA (bin2 addM (peekE 3) (callE (callN 2 F__law_draw) [] (consA (varE 0) (consA (cE (.int 4)) nilA)))) (consA (cE (.int 1)) nilA)))) nilA)) (mutS 2 appendM (consA (tupE (consA (bin2 addM (bin2 addM (bin2 mulM (cE (.int 4)) (peekE 4)) (cE (.int 1))) (callE (callN 2 F__law_draw) [] (consA (varE 0) (consA (cE (.int 2)) nilA)))) (consA (cE (.int 1)) (consA (cE (.int 1)) nilA)))) nilA)))
theorem sz_small {n : Nat} {x : Int} (h0 : 0 ≤ x) (h1 : x < 64) (l : 6 ≤ n := by decide) : Sz n x := by
  have : Sz 6 x := by unfold Sz; omega
  exact this.up l
theorem comb_ok {h : MH} {N B r u : Nat} (H : HOk h N B) (hr : r < N) (hB : B < 800000) (hu : u < 3) : ∃ (cs : List T3) (h' : MH), F__law_comb [.ref r, .int ((u + 1 : Nat) : Int)] h = .ok (ct cs) h' ∧ Raw 6 cs ∧ cs.length ≤ 9 ∧ HOk h' N (B + 30) := by
  have z : zl = 16777216 := rfl
  obtain ⟨d0, h0, e0, hd0, H0⟩ := draw_ok (m := 5) H hr (by omega) (by omega) (by omega)
  have e0 : F__law_draw [.ref r, .int 5] h = .ok (.int d0) h0 := e0
  generalize ht : ((u + 1 : Nat) : Int) = t
  have m0 : ∀ h, mulM h (.int 4) (.int t) = some (.int (4 * t)) := fun h => mul_M (m := 6) (n := 6) (sz_small (by decide) (by decide)) (sz_small (by omega) (by omega))
  have rg : rng3M [.int (t - 1), .int (-1), .int (-1)] = some ((List.range (u + 1)).map fun i : Nat => .int ((u - i : Nat) : Int)) := by
    have : t - 1 = (u : Int) := by omega
    rw [this]
    exact rng3_nat (by omega)
  obtain ⟨σ', h', e, cs, s4, rfl, _, R, ln, H'⟩ := forL_inv (α := Nat) (t := nameT 4) (b := bCo) (fun i : Nat => .int ((u - i : Nat) : Int))
    (fun pre post σ h' => ∃ (cs : List T3) (s4 : SV), σ = [.val (.ref r), .val (.int t), .own (cs.map trv), .val (.int (2 + (d0 : Int))), s4] ∧ pre ++ post = List.range (u + 1) ∧ Raw 6 cs ∧ cs.length = 2 + 2 * pre.length ∧ HOk h' N (B + 1 + 3 * pre.length))
    (by
      rintro pre i post σ h1 ⟨cs, s4, rfl, he, R, ln, H1⟩
      refine ⟨_, rfl, ?_⟩
      have lp : pre.length < u + 1 := by
        have := congrArg List.length he
        simp at this
        omega
      obtain ⟨a, h2, ea, ha, H2⟩ := draw_ok (m := 2) H1 hr (by omega) (by omega) (by omega)
      obtain ⟨b, h3, eb, hb, H3⟩ := draw_ok (m := 4) H2 hr (by omega) (by omega) (by omega)
      obtain ⟨c, h4, ec, hc, H4⟩ := draw_ok (m := 2) H3 hr (by omega) (by omega) (by omega)
      have ea : F__law_draw [.ref r, .int 2] h1 = .ok (.int a) h2 := ea
      have eb : F__law_draw [.ref r, .int 4] h2 = .ok (.int b) h3 := eb
      have ec : F__law_draw [.ref r, .int 2] h3 = .ok (.int c) h4 := ec
      generalize hx : ((u - i : Nat) : Int) = x
      have x0 : 0 ≤ x ∧ x < 3 := by omega
      have m1 : ∀ h, mulM h (.int 4) (.int x) = some (.int (4 * x)) := fun h => mul_M (m := 6) (n := 6) (sz_small (by decide) (by decide)) (sz_small (by omega) (by omega))
      have m2 : ∀ q : Bool, mulM h2 (.int a) (.int (if q = true then 1 else 0)) = some (.int ((a : Int) * (if q = true then 1 else 0))) := fun q => mul_M (m := 6) (n := 6) (sz_small (by omega) (by omega)) (sz_small (by cases q <;> decide) (by cases q <;> decide))
      have bb : 0 ≤ ((a : Int) * (if (x + 1 == t) = true then 1 else 0)) ∧ ((a : Int) * (if (x + 1 == t) = true then 1 else 0)) < 2 := by
        cases (x + 1 == t) <;> simp <;> omega
      generalize hy : (x + 1 == t) = y at bb
      have m2 := m2 y
      generalize (a : Int) * (if y = true then 1 else 0) = v at m2 bb
      refine ⟨[.val (.ref r), .val (.int t), .own ((cs ++ [(4 * x + 3 + v, 2 + (d0 : Int) + (b : Int), 1), (4 * x + 1 + (c : Int), 1, 1)]).map trv), .val (.int (2 + (d0 : Int))), .val (.int x)], h4, .inl ?_, _, _, rfl, by simpa using he, ?_, ?_, by rw [List.length_append]; exact H4.up (by simp; omega)⟩
      · unfold bCo
        rw [seqS_at, mutS_at (ys := cs.map trv) (hy := rfl)]
        simp only [consA_at, tupE_at, bin2_at, cE_at, peekE_at, List.set_cons_zero, List.set_cons_succ, List.getElem?_cons_zero, List.getElem?_cons_succ, bindR_ok, m1, optR_some, add_Mi, callE_at, varE_at, nilA_at, List.append_nil, List.length_cons, List.length_nil, if_true, ea, callB_at, eq_Mi, hy, int_Mb, m2, eb, List.length_append]
        simp only [Nat.zero_add, Nat.reduceAdd, if_true, ea, bindR_ok, callB_at, eq_Mi, hy, int_Mb, m2, eb, optR_some, add_Mi, zlt3, bindFl_ok]
        rw [app_M (by rw [List.length_map]; omega)]
        simp only [seqFl_nx, List.set_cons_zero, List.set_cons_succ]
        rw [mutS_at (ys := cs.map trv ++ [.tup [.int (4 * x + 3 + v), .int (2 + (d0 : Int) + (b : Int)), .int 1]]) (hy := rfl)]
        simp only [consA_at, tupE_at, bin2_at, cE_at, peekE_at, List.set_cons_zero, List.set_cons_succ, List.getElem?_cons_zero, List.getElem?_cons_succ, bindR_ok, m1, optR_some, add_Mi, callE_at, varE_at, nilA_at, List.append_nil, List.length_cons, List.length_nil, Nat.zero_add, Nat.reduceAdd, if_true, ec, zlt3, bindFl_ok]
        rw [app_M (by rw [List.length_append, List.length_map, List.length_singleton]; omega)]
        simp [trv]
      · intro t ht
        rcases List.mem_append.mp ht with ht | ht
        · exact R t ht
        · simp only [List.mem_cons, List.not_mem_nil, or_false] at ht
          rcases ht with rfl | rfl
          · exact ⟨sz_small (by dsimp only; omega) (by dsimp only; omega), sz_small (by dsimp only; omega) (by dsimp only; omega), rfl⟩
          · exact ⟨sz_small (by dsimp only; omega) (by dsimp only; omega), sz_small (by dsimp only; decide) (by dsimp only; decide), rfl⟩
      · rw [List.length_append, List.length_append, ln]
        simp
        omega)
    (List.range (u + 1)) [] [.val (.ref r), .val (.int t), .own ([(0, 0, 1), (4 * t, 0, 1)].map trv), .val (.int (2 + (d0 : Int))), .un] h0 ⟨[(0, 0, 1), (4 * t, 0, 1)], _, rfl, rfl, by
      intro q hq
      simp only [List.mem_cons, List.not_mem_nil, or_false] at hq
      rcases hq with rfl | rfl
      · exact ⟨sz_small (by decide) (by decide), sz_small (by decide) (by decide), rfl⟩
      · exact ⟨sz_small (by dsimp only; omega) (by dsimp only; omega), sz_small (by dsimp only; decide) (by dsimp only; decide), rfl⟩, rfl, by simpa using H0⟩
  refine ⟨cs, h', ?_, R, by rw [ln]; simp; omega, H'.up (by simp; omega)⟩
  unfold F__law_comb b__law_comb
  rw [bodyF_at]
  unfold bCo at e
  simp [m0, e0, rg, -mutS_at]
  simp only [trv, List.map_cons, List.map_nil] at e
  rw [e]
  simp [ct]
/-! grown rooms -/
theorem ix_trv0 (t : T3) (h : MH) : ixDM h (trv t) (.int 0) = some (.int t.1) := rfl
theorem ix_trv1 (t : T3) (h : MH) : ixDM h (trv t) (.int 1) = some (.int t.2.1) := rfl
theorem ix_trv2 (t : T3) (h : MH) : ixDM h (trv t) (.int 2) = some (.int t.2.2) := rfl
def bGr : SM := (seqS (setS 3 (wrapL (compO [11, 12, 7] (itAny (varE 3)) (tupT 3 (consT (nameT 11) (consT (nameT 12) (consT (nameT 7) nilT)))) yesT (tupE (consA (bin2 mulM (cE (.int 4)) (peekE 11)) (consA (bin2 mulM (cE (.int 4)) (peekE 12)) (consA (cE (.int 1)) nilA))))))) (seqS (par2S 5 6 (.v (callE (callN 2 F__law_draw) [] (consA (varE 0) (consA (callB lenM (consA (peekE 3) nilA)) nilA)))) (.v (callE (callN 2 F__law_one_of) [] (consA (varE 0) (consA (wrapL (lstO (consA (un1 negM (cE (.int 3))) (consA (un1 negM (cE (.int 2))) (consA (un1 negM (cE (.int 1))) (consA (cE (.int 1)) (consA (cE (.int 2)) (consA (cE (.int 3)) nilA)))))))) nilA))))) (seqS (par2S 7 8 (.v (bin2 ixDM (peekE 3) (peekE 5))) (.v (bin2 ixDM (peekE 3) (bin2 modM (callB intM (consA (bin2 addM (peekE 5) (cE (.int 1))) nilA)) (callB lenM (consA (peekE 3) nilA)))))) (seqS (setS 9 (tupE (consA (bin2 addM (bin2 divM (bin2 addM (bin2 ixDM (peekE 7) (cE (.int 0))) (bin2 ixDM (peekE 8) (cE (.int 0)))) (cE (.int 2))) (bin2 divM (bin2 mulM (bin2 subM (bin2 ixDM (peekE 8) (cE (.int 1))) (bin2 ixDM (peekE 7) (cE (.int 1)))) (peekE 6)) (cE (.int 4)))) (consA (bin2 subM (bin2 divM (bin2 addM (bin2 ixDM (peekE 7) (cE (.int 1))) (bin2 ixDM (peekE 8) (cE (.int 1)))) (cE (.int 2))) (bin2 divM (bin2 mulM (bin2 subM (bin2 ixDM (peekE 8) (cE (.int 0))) (bin2 ixDM (peekE 7) (cE (.int 0)))) (peekE 6)) (cE (.int 4)))) (consA (cE (.int 1)) nilA))))) (seqS (setS 10 (bin2 addM (bin2 addM (slV (peekE 3) noP (prtP (bin2 addM (peekE 5) (cE (.int 1))))) (wrapL (lstO (consA (varE 9) nilA)))) (slV (peekE 3) (prtP (bin2 addM (peekE 5) (cE (.int 1)))) noP))) (setS 3 (ifE (tstE (callE (callN 1 F__law_is_simple) [] (consA (varE 10) nilA))) (varE 10) (varE 3))))))))
theorem tip_sz {k : Nat} {a b c d g : Int} (ha : Sz k a) (hb : Sz k b) (hc : Sz k c) (hd : Sz k d) (hg : g ∈ [(-3 : Int), -2, -1, 1, 2, 3]) : Sz (k + 4) ((4 * a + 4 * b).fdiv 2 + ((4 * c - 4 * d) * g).fdiv 4) ∧ Sz (k + 4) ((4 * a + 4 * b).fdiv 2 - ((4 * c - 4 * d) * g).fdiv 4) := by
  rw [Int.fdiv_eq_ediv_of_nonneg _ (by decide), Int.fdiv_eq_ediv_of_nonneg _ (by decide)]
  unfold Sz at *
  rw [Nat.pow_add]
  generalize 2 ^ k = P at *
  simp only [List.mem_cons, List.not_mem_nil, or_false] at hg
  rcases hg with rfl | rfl | rfl | rfl | rfl | rfl <;> constructor <;> omega
theorem grown_turn {h : MH} {N B r k : Nat} {c0 t0 : MV} {cs : List T3} {s4 s5 s6 s7 s8 s9 s10 s11 s12 : SV} (H : HOk h N B) (hr : r < N) (hB : B < 800000) (R : Raw k cs) (l0 : 0 < cs.length) (l : cs.length < 100) (hk : k < 200) :
    ∃ (cs' : List T3) (h' : MH) (s5' s6' s7' s8' s9' s10' : SV), bGr [.val (.ref r), .val c0, .val t0, .val (ct cs), s4, s5, s6, s7, s8, s9, s10, s11, s12] h = .nx [.val (.ref r), .val c0, .val t0, .val (ct cs'), s4, s5', s6', s7', s8', s9', s10', s11, s12] h' ∧ Raw (k + 4) cs' ∧ 0 < cs'.length ∧ cs'.length ≤ cs.length + 1 ∧ HOk h' N (B + 2) := by
  have z : zl = 16777216 := rfl
  have k4 : Sz 3 (4 : Int) := by unfold Sz; decide
  -- the greater room
  have e1 := compO_data (vs := [11, 12, 7]) (fi := itAny (varE 3)) (t := tupT 3 (consT (nameT 11) (consT (nameT 12) (consT (nameT 7) nilT)))) (f := tupE (consA (bin2 mulM (cE (.int 4)) (peekE 11)) (consA (bin2 mulM (cE (.int 4)) (peekE 12)) (consA (cE (.int 1)) nilA)))) (σ := [.val (.ref r), .val c0, .val t0, .val (ct cs), s4, s5, s6, s7, s8, s9, s10, s11, s12]) (h := h) (xs := cs) trv (fun t => trv (4 * t.1, 4 * t.2.1, 1)) (by simp [ct]) (by omega) (by
    intro t ht
    obtain ⟨q1, q2, q3⟩ := R t ht
    refine ⟨_, rfl, ?_⟩
    simp [wipeM, mul_M k4 (q1.up (by omega : k ≤ 300)), mul_M k4 (q2.up (by omega : k ≤ 300)), trv])
  generalize hc4 : cs.map (fun t => ((4 * t.1, 4 * t.2.1, 1) : T3)) = c4
  have R4 : Raw (k + 4) c4 := by
    intro t ht
    rw [← hc4] at ht
    obtain ⟨q, hq, rfl⟩ := List.mem_map.mp ht
    obtain ⟨q1, q2, q3⟩ := R q hq
    refine ⟨?_, ?_, rfl⟩
    · unfold Sz at *
      rw [Nat.pow_add]
      generalize 2 ^ k = P at *
      dsimp only
      omega
    · unfold Sz at *
      rw [Nat.pow_add]
      generalize 2 ^ k = P at *
      dsimp only
      omega
  have lc4 : c4.length = cs.length := by rw [← hc4, List.length_map]
  have e1' : (cs.map fun t => trv (4 * t.1, 4 * t.2.1, 1)) = c4.map trv := by
    rw [← hc4, List.map_map]
    rfl
  rw [e1'] at e1
  -- the draws
  obtain ⟨d, h1, ed, hd, H1⟩ := draw_ok (m := cs.length) H hr (by omega) l0 (by omega)
  obtain ⟨gm, h2, eg, hgm, H2⟩ := one_of_ok (xs := [.int (-3), .int (-2), .int (-1), .int 1, .int 2, .int 3]) H1 hr (by omega) (by decide) (by decide)
  obtain ⟨g, rfl, hg⟩ : ∃ g : Int, gm = .int g ∧ g ∈ [(-3 : Int), -2, -1, 1, 2, 3] := by
    simp only [List.mem_cons, List.not_mem_nil, or_false] at hgm
    rcases hgm with rfl | rfl | rfl | rfl | rfl | rfl <;> exact ⟨_, rfl, by decide⟩
  have lm : ∀ h, lenM h [.lst (c4.map trv)] = some (.int cs.length) := fun h => by simp [lc4]
  have d2 : (d + 1) % cs.length < cs.length := Nat.mod_lt _ l0
  have g4 : ∀ i, i < cs.length → c4[i]? = some (4 * (nth cs i).1, 4 * (nth cs i).2.1, 1) := by
    intro i hi
    rw [← hc4, List.getElem?_map, nth_get hi]
    rfl
  have a1 : atI (c4.map trv) (d : Int) = some (trv (4 * (nth cs d).1, 4 * (nth cs d).2.1, 1)) := by
    rw [atI_n, List.getElem?_map, g4 d hd]
    rfl
  have a2 : atI (c4.map trv) (((d : Int) + 1).fmod cs.length) = some (trv (4 * (nth cs ((d + 1) % cs.length)).1, 4 * (nth cs ((d + 1) % cs.length)).2.1, 1)) := by
    have := fmod_nat (d + 1) cs.length
    rw [Int.natCast_add] at this
    rw [show ((1 : Nat) : Int) = 1 from rfl] at this
    rw [this, atI_n, List.getElem?_map, g4 _ d2]
    rfl
  obtain ⟨p1, p2, _⟩ := R _ (nth_mem hd)
  obtain ⟨q1, q2, _⟩ := R _ (nth_mem d2)
  generalize nth cs d = p at a1 p1 p2
  generalize nth cs ((d + 1) % cs.length) = q at a2 q1 q2
  have md : ∀ h, modM h (.int ((d : Int) + 1)) (.int cs.length) = some (.int (((d : Int) + 1).fmod cs.length)) := fun h => mod_Mi _ _ _ (by omega)
  have gs : Sz 2 g := by
    simp only [List.mem_cons, List.not_mem_nil, or_false] at hg
    rcases hg with rfl | rfl | rfl | rfl | rfl | rfl <;> (unfold Sz; decide)
  have k300 : k ≤ 300 := by omega
  have s1 := ((k4.mul (q2.up k300)).sub (k4.mul (p2.up k300)))
  have s2 := ((k4.mul (q1.up k300)).sub (k4.mul (p1.up k300)))
  have dv2 : ∀ (x : Int) h, divM h (.int x) (.int 2) = some (.int (x.fdiv 2)) := fun x h => div_Mi (n := 3) (by decide) (by unfold Sz; decide)
  have dv4 : ∀ (x : Int) h, divM h (.int x) (.int 4) = some (.int (x.fdiv 4)) := fun x h => div_Mi (n := 3) (by decide) (by unfold Sz; decide)
  have t1 := (tip_sz p1 q1 q2 p2 hg).1
  have t2 := (tip_sz p2 q2 q1 p1 hg).2
  generalize htip : (((4 * p.1 + 4 * q.1).fdiv 2 + ((4 * q.2.1 - 4 * p.2.1) * g).fdiv 4, (4 * p.2.1 + 4 * q.2.1).fdiv 2 - ((4 * q.1 - 4 * p.1) * g).fdiv 4, 1) : T3) = tip
  have ht1 : tip = ((4 * p.1 + 4 * q.1).fdiv 2 + ((4 * q.2.1 - 4 * p.2.1) * g).fdiv 4, (4 * p.2.1 + 4 * q.2.1).fdiv 2 - ((4 * q.1 - 4 * p.1) * g).fdiv 4, 1) := htip.symm
  have tipM : MV.tup [.int ((4 * p.1 + 4 * q.1).fdiv 2 + ((4 * q.2.1 - 4 * p.2.1) * g).fdiv 4), .int ((4 * p.2.1 + 4 * q.2.1).fdiv 2 - ((4 * q.1 - 4 * p.1) * g).fdiv 4), .int 1] = trv tip := by
    rw [ht1]
    rfl
  have late : ∀ h, (addM h (.lst (cutL (c4.map trv) none (some ((d : Int) + 1)))) (.lst [trv tip])) = some (.lst ((c4.take (d + 1) ++ [tip]).map trv)) := by
    intro h
    have := cutL_to (c4.map trv) (d + 1)
    rw [← List.map_take] at this
    rw [show (d : Int) + 1 = ((d + 1 : Nat) : Int) from rfl, this, add_Ml _ _ _ (by rw [List.length_map, List.length_take]; simp; omega), List.map_append]
    rfl
  have late2 : ∀ h, (addM h (.lst ((c4.take (d + 1) ++ [tip]).map trv)) (.lst (cutL (c4.map trv) (some ((d : Int) + 1)) none))) = some (ct (c4.take (d + 1) ++ [tip] ++ c4.drop (d + 1))) := by
    intro h
    have := cutL_from (c4.map trv) (d + 1)
    rw [← List.map_drop] at this
    rw [show (d : Int) + 1 = ((d + 1 : Nat) : Int) from rfl, this, add_Ml _ _ _ (by rw [List.length_map, List.length_map, List.length_append, List.length_take, List.length_drop]; simp; omega), ← List.map_append]
    rfl
  have RL : Raw (k + 4) (c4.take (d + 1) ++ [tip] ++ c4.drop (d + 1)) := by
    intro t ht
    rcases List.mem_append.mp ht with ht | ht
    · rcases List.mem_append.mp ht with ht | ht
      · exact R4 t (List.mem_of_mem_take ht)
      · rw [List.mem_singleton.mp ht, ht1]
        exact ⟨t1, t2, rfl⟩
    · exact R4 t (List.mem_of_mem_drop ht)
  have lL : (c4.take (d + 1) ++ [tip] ++ c4.drop (d + 1)).length = cs.length + 1 := by
    simp
    omega
  generalize hL : c4.take (d + 1) ++ [tip] ++ c4.drop (d + 1) = cL at *
  obtain ⟨b, eb, _⟩ := simple_ok (h := h2) (RL.tok (by omega)) (by omega) (by omega)
  have ed : F__law_draw [.ref r, .int cs.length] h = .ok (.int d) h1 := ed
  refine ⟨if b = true then cL else c4, h2, .val (.int d), .val (.int g), .val (trv (4 * p.1, 4 * p.2.1, 1)), .val (trv (4 * q.1, 4 * q.2.1, 1)), .val (trv tip), .val (ct cL), ?_, ?_, ?_, ?_, H2⟩
  · unfold bGr
    simp [e1, ed, eg, lm, a1, a2, md, -List.map_take, -List.map_drop, -List.map_append, ix_trv0, ix_trv1, dv2, dv4, mul_M s1 gs, mul_M s2 gs, tipM, late, late2, eb]
    cases b <;> simp [ct]
  · cases b
    · exact R4
    · exact RL
  · cases b
    · simp [lc4, l0]
    · simp [lL]
  · cases b
    · simp [lc4]
    · simp [lL]
end K84
end P_Q18
section P_Q19
set_option Elab.async false
set_option linter.all false
set_option maxRecDepth 100000
set_option maxHeartbeats 4000000
set_option exponentiation.threshold 10000
namespace K84
open PySem PySem.Spec PyProof.Rows L2 Mi TL

theorem grown_ok {h : MH} {N B r : Nat} {cs : List T3} (H : HOk h N B) (hr : r < N) (hB : B < 700000) (R : Raw 3 cs) (l0 : 0 < cs.length) (l : cs.length ≤ 4) : ∃ (cs' : List T3) (h' : MH), F__law_grown [.ref r, ct cs, .int 5] h = .ok (ct cs') h' ∧ Raw 23 cs' ∧ cs'.length ≤ 9 ∧ HOk h' N (B + 10) := by
  have r5 : rng1M [.int 5] = some (([0, 1, 2, 3, 4] : List Nat).map fun i : Nat => .int i) := rfl
  have li : listM h [ct cs] = some (cs.map trv) := rfl
  obtain ⟨σ', h', e, cs', s4, s5, s6, s7, s8, s9, s10, rfl, he, R', l0', ln, H'⟩ := forL_inv (α := Nat) (t := nameT 4) (b := bGr) (fun i : Nat => .int i)
    (fun pre post σ h' => ∃ (cs' : List T3) (s4 s5 s6 s7 s8 s9 s10 : SV), σ = [.val (.ref r), .val (ct cs), .val (.int 5), .val (ct cs'), s4, s5, s6, s7, s8, s9, s10, .un, .un] ∧ pre ++ post = [0, 1, 2, 3, 4] ∧ Raw (3 + 4 * pre.length) cs' ∧ 0 < cs'.length ∧ cs'.length ≤ 4 + pre.length ∧ HOk h' N (B + 2 * pre.length))
    (by
      rintro pre i post σ h1 ⟨c, s4, s5, s6, s7, s8, s9, s10, rfl, he, R1, l1, ln, H1⟩
      refine ⟨_, rfl, ?_⟩
      have lp : pre.length < 5 := by
        have := congrArg List.length he
        simp at this
        omega
      obtain ⟨c', h2, t5, t6, t7, t8, t9, t10, e, R2, l2, ln2, H2⟩ := grown_turn (c0 := ct cs) (t0 := .int 5) (s4 := .val (.int i)) (s5 := s5) (s6 := s6) (s7 := s7) (s8 := s8) (s9 := s9) (s10 := s10) (s11 := .un) (s12 := .un) H1 hr (by omega) R1 l1 (by omega) (by omega)
      refine ⟨_, h2, .inl e, c', _, _, _, _, _, _, _, rfl, by simpa using he, by rw [List.length_append]; exact R2.up (by simp; omega), l2, by rw [List.length_append]; simp; omega, by rw [List.length_append]; exact H2.up (by simp; omega)⟩)
    [0, 1, 2, 3, 4] [] [.val (.ref r), .val (ct cs), .val (.int 5), .val (ct cs), .un, .un, .un, .un, .un, .un, .un, .un, .un] h ⟨cs, _, _, _, _, _, _, _, rfl, rfl, R, l0, by simpa using l, by simpa using H⟩
  simp only [List.nil_append, List.length_cons, List.length_nil] at R' ln H'
  refine ⟨cs', h', ?_, R', ln, H'⟩
  unfold F__law_grown b__law_grown
  rw [bodyF_at]
  show endFl ((seqS (setS 3 (wrapL (callBO listM (consA (peekE 1) nilA)))) (seqS (forS (nameT 4) (itB rng1M (consA (varE 2) nilA)) bGr) (retS (varE 3)))) _ h) = _
  simp [li]
  rw [show (MV.lst (cs.map trv)) = ct cs from rfl, r5]
  simp only [optR_some, bindFl_ok]
  rw [e]
  simp
/-! the room drawn -/
structure RoomT (cs : List T3) : Prop where
  tok : Tc 27 cs
  w : ∀ t ∈ cs, t.2.2 < 1000000
  room : RoomQ (cs.map toPt)
  good : Good (cs.map toPt)
structure GR (cs : List T3) : Prop where
  raw : Raw 23 cs
  good : Good (cs.map toPt)
  l : cs.length ≤ 9
theorem GR.l3 {cs : List T3} (G : GR cs) : 3 ≤ cs.length := by
  have := G.good.l3
  rwa [List.length_map] at this
theorem GR.rev {cs : List T3} (G : GR cs) : GR cs.reverse := ⟨fun t ht => G.raw t (List.mem_reverse.mp ht), by rw [List.map_reverse]; exact G.good.rev, by rw [List.length_reverse]; exact G.l⟩
def mr3 (t : T3) : T3 := (0 - t.1, t.2.1, 1)
theorem GR.mirror {cs : List T3} (G : GR cs) : GR (cs.map mr3) := by
  refine ⟨?_, ?_, by rw [List.length_map]; exact G.l⟩
  · intro t ht
    obtain ⟨q, hq, rfl⟩ := List.mem_map.mp ht
    obtain ⟨q1, q2, q3⟩ := G.raw q hq
    refine ⟨?_, q2, rfl⟩
    show Sz 23 (0 - q.1)
    rw [Int.zero_sub]
    exact q1.neg
  · have e : (cs.map mr3).map toPt = (cs.map toPt).map mr := by
      rw [List.map_map, List.map_map]
      refine List.map_congr_left fun t ht => ?_
      obtain ⟨q1, q2, q3⟩ := G.raw t ht
      show toPt (mr3 t) = mr (toPt t)
      rw [toPt_1 q3, toPt_1 (t := mr3 t) rfl]
      unfold mr mr3
      simp
    rw [e]
    exact G.good.map mr_keep
def tri : List T3 := [(0, 0, 1), (5, 0, 1), (0, 3, 1)]
theorem tri_GR : GR tri := by
  refine ⟨?_, ?_, by decide⟩
  · intro t ht
    simp only [tri, List.mem_cons, List.not_mem_nil, or_false] at ht
    rcases ht with rfl | rfl | rfl <;> exact ⟨by unfold Sz; decide, by unfold Sz; decide, rfl⟩
  · refine good_of (by decide) ?_ ?_
    · intro i hi
      have hi : i < 3 := hi
      have : i = 0 ∨ i = 1 ∨ i = 2 := by omega
      rcases this with rfl | rfl | rfl <;> decide +kernel
    · intro i j h1 h2 h3
      have h2 : j < 3 := h2
      exact absurd ⟨by omega, by show j = 3 - 1; omega⟩ h3
/-- turned, moved, made smaller -/
def fin3 (at_ : Nat) (mx my p : Int) (cs : List T3) : List T3 := (cs.drop at_ ++ cs.take at_).map fun t => (t.1 + mx, t.2.1 + my, p)
theorem fin_ok {cs : List T3} {at_ : Nat} {mx my p : Int} (G : GR cs) (d : ¬ dbl (cs.map toPt) < 0) (ha : at_ ≤ cs.length) (hx : Sz 4 mx) (hy : Sz 4 my) (p0 : 0 < p) (p1 : p < 4) : RoomT (fin3 at_ mx my p cs) := by
  have ps : Sz 2 p := by unfold Sz; omega
  have mem : ∀ t ∈ cs.drop at_ ++ cs.take at_, t ∈ cs := by
    intro t ht
    rcases List.mem_append.mp ht with h | h
    · exact List.mem_of_mem_drop h
    · exact List.mem_of_mem_take h
  have tk : Tc 27 (fin3 at_ mx my p cs) := by
    intro t ht
    obtain ⟨q, hq, rfl⟩ := List.mem_map.mp ht
    obtain ⟨q1, q2, q3⟩ := G.raw q (mem q hq)
    exact ⟨(q1.add hx).up (by decide), (q2.add hy).up (by decide), ps.up (by decide), p0⟩
  have pr : (0 : Rat) < 1 / (p : Rat) := by
    have := pos_cast p0
    rw [Rat.div_def, Rat.one_mul]
    exact Rat.inv_pos.mpr this
  have e : (fin3 at_ mx my p cs).map toPt = (((cs.map toPt).drop at_ ++ (cs.map toPt).take at_).map (mv ((mx : Rat), (my : Rat)))).map (sc (1 / (p : Rat))) := by
    unfold fin3
    rw [← List.map_drop, ← List.map_take, ← List.map_append, List.map_map, List.map_map, List.map_map]
    refine List.map_congr_left fun t ht => ?_
    obtain ⟨q1, q2, q3⟩ := G.raw t (mem t ht)
    show toPt (t.1 + mx, t.2.1 + my, p) = sc (1 / (p : Rat)) (mv _ (toPt t))
    rw [toPt_1 q3]
    unfold toPt sc mv
    dsimp only
    rw [Rat.divInt_eq_div, Rat.divInt_eq_div, Rat.intCast_add, Rat.intCast_add]
    refine Prod.ext ?_ ?_
    · dsimp only
      rw [Rat.div_def, Rat.div_def]
      grind
    · dsimp only
      rw [Rat.div_def, Rat.div_def]
      grind
  have ha' : at_ ≤ (cs.map toPt).length := by rw [List.length_map]; exact ha
  have gd : Good ((fin3 at_ mx my p cs).map toPt) := by
    rw [e]
    exact ((G.good.rot ha').map (mv_keep _)).map (sc_keep pr)
  have ll : (fin3 at_ mx my p cs).length = cs.length := by
    unfold fin3
    simp
    omega
  have l9 := G.l
  have l3 := G.l3
  refine ⟨tk, ?_, ⟨?_, ?_, ?_, gd.nodup, gd.straight, gd.noMeet, ?_⟩, gd⟩
  · intro t ht
    obtain ⟨q, hq, rfl⟩ := List.mem_map.mp ht
    show p < 1000000
    omega
  · rw [List.length_map, ll]; omega
  · rw [List.length_map, ll]; omega
  · intro q hq
    obtain ⟨t, ht, rfl⟩ := List.mem_map.mp hq
    have k := tk t ht
    exact ⟨(Bq.divInt k.p k.x k.w).up (by decide), (Bq.divInt k.p k.y k.w).up (by decide)⟩
  · rw [e, dbl_sc, dbl_mv, dbl_rot _ _ ha']
    have : 0 ≤ 1 / (p : Rat) * (1 / (p : Rat)) * dbl (cs.map toPt) := Rat.mul_nonneg (Rat.le_of_lt (Rat.mul_pos pr pr)) (Rat.not_lt.mp d)
    exact Rat.not_lt.mpr this
end K84
end P_Q19
section P_Q20
set_option Elab.async false
set_option linter.all false
set_option maxRecDepth 100000
set_option maxHeartbeats 4000000
set_option exponentiation.threshold 10000
namespace K84
open PySem PySem.Spec PyProof.Rows L2 Mi TL

def bR4 : SM := (seqS (par2S 4 5 (.v (callE (callN 2 F__law_draw) [] (consA (varE 0) (consA (callB lenM (consA (peekE 3) nilA)) nilA)))) (.v (callE (callN 2 F__law_one_of) [] (consA (varE 0) (consA (wrapL (lstO (consA (cE (.int 1)) (consA (cE (.int 1)) (consA (cE (.int 2)) (consA (cE (.int 3)) nilA)))))) nilA))))) (seqS (setS 3 (ifE (tstE (bin2 gtM (callE (callN 1 F__law_twice) [] (consA (varE 3) nilA)) (cE (.int 0)))) (varE 3) (wrapL (revO (peekE 3))))) (seqS (setS 6 (tupE (consA (bin2 subM (callE (callN 2 F__law_draw) [] (consA (varE 0) (consA (cE (.int 9)) nilA))) (cE (.int 4))) (consA (bin2 subM (callE (callN 2 F__law_draw) [] (consA (varE 0) (consA (cE (.int 9)) nilA))) (cE (.int 4))) nilA)))) (retS (wrapL (compO [7, 8, 9] (itAny (bin2 addM (slV (peekE 3) (prtP (peekE 4)) noP) (slV (peekE 3) noP (prtP (peekE 4))))) (tupT 3 (consT (nameT 7) (consT (nameT 8) (consT (nameT 9) nilT)))) yesT (tupE (consA (bin2 addM (peekE 7) (bin2 ixDM (peekE 6) (cE (.int 0)))) (consA (bin2 addM (peekE 8) (bin2 ixDM (peekE 6) (cE (.int 1)))) (consA (varE 5) nilA))))))))))
def bR3 : SM := (seqS (ifS (tstE (bin2 eqM (callE (callN 2 F__law_draw) [] (consA (varE 0) (consA (cE (.int 2)) nilA))) (cE (.int 0)))) (setS 3 (wrapL (compO [7, 8, 9] (itAny (wrapL (revO (peekE 3)))) (tupT 3 (consT (nameT 7) (consT (nameT 8) (consT (nameT 9) nilT)))) yesT (tupE (consA (bin2 subM (cE (.int 0)) (peekE 7)) (consA (varE 8) (consA (cE (.int 1)) nilA))))))) nextS) bR4)
def bR2 : SM := (seqS (setS 3 (ifE (andT (tstE (callE (callN 1 F__law_is_simple) [] (consA (varE 3) nilA))) (tstE (bin2 leM (callB lenM (consA (peekE 3) nilA)) (peekE 1)))) (varE 3) (wrapL (lstO (consA (tupE (consA (cE (.int 0)) (consA (cE (.int 0)) (consA (cE (.int 1)) nilA)))) (consA (tupE (consA (cE (.int 5)) (consA (cE (.int 0)) (consA (cE (.int 1)) nilA)))) (consA (tupE (consA (cE (.int 0)) (consA (cE (.int 3)) (consA (cE (.int 1)) nilA)))) nilA))))))) bR3)
theorem tail4 {h : MH} {N B r : Nat} {s2 s4 s5 : SV} {cs : List T3} (H : HOk h N B) (hr : r < N) (hB : B < 600000) (G : GR cs) : ∃ (cs' : List T3) (h' : MH), endFl (bR4 [.val (.ref r), .val (.int 9), s2, .val (ct cs), s4, s5, .un, .un, .un, .un] h) = .ok (ct cs') h' ∧ RoomT cs' ∧ HOk h' N (B + 4) := by
  have z : zl = 16777216 := rfl
  have l9 := G.l
  have l3 := G.l3
  obtain ⟨d, h1, ed, hd, H1⟩ := draw_ok (m := cs.length) H hr (by omega) (by omega) (by omega)
  obtain ⟨gm, h2, eg, hgm, H2⟩ := one_of_ok (xs := [.int 1, .int 1, .int 2, .int 3]) H1 hr (by omega) (by decide) (by decide)
  obtain ⟨p, rfl, p0, p1⟩ : ∃ g : Int, gm = .int g ∧ 0 < g ∧ g < 4 := by
    simp only [List.mem_cons, List.not_mem_nil, or_false] at hgm
    rcases hgm with rfl | rfl | rfl | rfl <;> exact ⟨_, rfl, by decide, by decide⟩
  obtain ⟨tw, et, htw⟩ := twice_ok (h := h2) G.raw (by decide) (by omega)
  obtain ⟨x, h3, ex, hx, H3⟩ := draw_ok (m := 9) H2 hr (by omega) (by decide) (by decide)
  obtain ⟨y, h4, ey, hy, H4⟩ := draw_ok (m := 9) H3 hr (by omega) (by decide) (by decide)
  have ex : F__law_draw [.ref r, .int 9] h2 = .ok (.int x) h3 := ex
  have ey : F__law_draw [.ref r, .int 9] h3 = .ok (.int y) h4 := ey
  have lm : lenM h [ct cs] = some (.int cs.length) := by simp [ct]
  have fin : ∀ c2 : List T3, GR c2 → c2.length = cs.length → ¬ dbl (c2.map toPt) < 0 → ∃ (cs' : List T3), endFl ((seqS (setS 6 (tupE (consA (bin2 subM (callE (callN 2 F__law_draw) [] (consA (varE 0) (consA (cE (.int 9)) nilA))) (cE (.int 4))) (consA (bin2 subM (callE (callN 2 F__law_draw) [] (consA (varE 0) (consA (cE (.int 9)) nilA))) (cE (.int 4))) nilA)))) (retS (wrapL (compO [7, 8, 9] (itAny (bin2 addM (slV (peekE 3) (prtP (peekE 4)) noP) (slV (peekE 3) noP (prtP (peekE 4))))) (tupT 3 (consT (nameT 7) (consT (nameT 8) (consT (nameT 9) nilT)))) yesT (tupE (consA (bin2 addM (peekE 7) (bin2 ixDM (peekE 6) (cE (.int 0)))) (consA (bin2 addM (peekE 8) (bin2 ixDM (peekE 6) (cE (.int 1)))) (consA (varE 5) nilA)))))))) [.val (.ref r), .val (.int 9), s2, .val (ct c2), .val (.int d), .val (.int p), .un, .un, .un, .un] h2) = .ok (ct cs') h4 ∧ RoomT cs' := by
    intro c2 G2 l2 db
    have ok := fin_ok (at_ := d) (mx := (x : Int) - 4) (my := (y : Int) - 4) (p := p) G2 db (by omega) (by unfold Sz; omega) (by unfold Sz; omega) p0 p1
    refine ⟨_, ?_, ok⟩
    have c1 := cutL_from (c2.map trv) d
    have c0 := cutL_to (c2.map trv) d
    rw [← List.map_drop] at c1
    rw [← List.map_take] at c0
    have ad : addM h4 (.lst ((c2.drop d).map trv)) (.lst ((c2.take d).map trv)) = some (.lst ((c2.drop d ++ c2.take d).map trv)) := by
      rw [add_Ml _ _ _ (by rw [List.length_map, List.length_map, List.length_drop, List.length_take]; omega), List.map_append]
    have e := compO_data (vs := [7, 8, 9]) (fi := itAny (bin2 addM (slV (peekE 3) (prtP (peekE 4)) noP) (slV (peekE 3) noP (prtP (peekE 4))))) (t := tupT 3 (consT (nameT 7) (consT (nameT 8) (consT (nameT 9) nilT)))) (f := tupE (consA (bin2 addM (peekE 7) (bin2 ixDM (peekE 6) (cE (.int 0)))) (consA (bin2 addM (peekE 8) (bin2 ixDM (peekE 6) (cE (.int 1)))) (consA (varE 5) nilA)))) (σ := [.val (.ref r), .val (.int 9), s2, .val (ct c2), .val (.int d), .val (.int p), .val (.tup [.int ((x : Int) - 4), .int ((y : Int) - 4)]), .un, .un, .un]) (h := h4) (xs := c2.drop d ++ c2.take d) trv (fun t => trv (t.1 + ((x : Int) - 4), t.2.1 + ((y : Int) - 4), p)) (by
        simp [ct, c1, c0, ad, -List.map_drop, -List.map_take, -List.map_append]) (by simp; omega) (by
        intro t ht
        refine ⟨_, rfl, ?_⟩
        simp [wipeM, trv])
    simp [ex, ey, e]
    unfold fin3 ct
    rw [List.map_map, ← List.map_drop, ← List.map_take, ← List.map_append]
    rfl
  have ed : F__law_draw [.ref r, .int cs.length] h = .ok (.int d) h1 := ed
  by_cases c : 0 < tw
  · obtain ⟨cs', e, R⟩ := fin cs G rfl (by
      rw [← htw]
      have : (0 : Rat) < (tw : Rat) := Rat.intCast_pos.mpr c
      grind)
    refine ⟨cs', h4, ?_, R, H4⟩
    rw [← e]
    unfold bR4
    simp [lm, ed, eg, et, c]
  · obtain ⟨cs', e, R⟩ := fin cs.reverse G.rev (by simp) (by
      rw [List.map_reverse, dbl_rev, ← htw]
      have : (tw : Rat) ≤ 0 := by
        have := Rat.intCast_le_intCast (a := tw) (b := 0)
        have := this.mpr (by omega)
        simpa using this
      grind)
    refine ⟨cs', h4, ?_, R, H4⟩
    rw [← e]
    have rv : seqM h2 (ct cs) = some (cs.map trv) := rfl
    have rc : MV.lst ((cs.map trv).reverse) = ct cs.reverse := by unfold ct; rw [List.map_reverse]
    unfold bR4
    simp [lm, ed, eg, et, c, rv, rc, -List.map_reverse]
theorem tail3 {h : MH} {N B r : Nat} {s2 s4 s5 : SV} {cs : List T3} (H : HOk h N B) (hr : r < N) (hB : B < 500000) (G : GR cs) : ∃ (cs' : List T3) (h' : MH), endFl (bR3 [.val (.ref r), .val (.int 9), s2, .val (ct cs), s4, s5, .un, .un, .un, .un] h) = .ok (ct cs') h' ∧ RoomT cs' ∧ HOk h' N (B + 5) := by
  have z : zl = 16777216 := rfl
  have l9 := G.l
  obtain ⟨d, h1, ed, hd, H1⟩ := draw_ok (m := 2) H hr (by omega) (by omega) (by omega)
  have ed : F__law_draw [.ref r, .int 2] h = .ok (.int d) h1 := ed
  by_cases c : (d : Int) = 0
  · obtain ⟨cs', h', e, R, H'⟩ := tail4 (s2 := s2) (s4 := s4) (s5 := s5) H1 hr (by omega) G.rev.mirror
    refine ⟨cs', h', ?_, R, H'⟩
    rw [← e]
    have rv : seqM h1 (ct cs) = some (cs.map trv) := rfl
    have e1 := compO_data (vs := [7, 8, 9]) (fi := itAny (wrapL (revO (peekE 3)))) (t := tupT 3 (consT (nameT 7) (consT (nameT 8) (consT (nameT 9) nilT)))) (f := tupE (consA (bin2 subM (cE (.int 0)) (peekE 7)) (consA (varE 8) (consA (cE (.int 1)) nilA)))) (σ := [.val (.ref r), .val (.int 9), s2, .val (ct cs), s4, s5, .un, .un, .un, .un]) (h := h1) (xs := cs.reverse) trv (fun t => trv (mr3 t)) (by
      simp [rv]) (by simp; omega) (by
      intro t ht
      refine ⟨_, rfl, ?_⟩
      simp [wipeM, trv, mr3])
    unfold bR3
    simp only [seqS_at, ifS_at, tstE_at, bin2_at, callE_at, consA_at, varE_at, cE_at, nilA_at, List.getElem?_cons_zero, bindR_ok, List.append_nil, List.length_cons, List.length_nil, Nat.zero_add, Nat.reduceAdd, if_true, ed, eq_Mi, c, optR_some, bindFl_ok, setS_at, wrapL_at]
    rw [e1]
    have e2 : (cs.reverse.map fun t => trv (mr3 t)) = (cs.reverse.map mr3).map trv := by rw [List.map_map]; rfl
    rw [e2]
    rfl
  · obtain ⟨cs', h', e, R, H'⟩ := tail4 (s2 := s2) (s4 := s4) (s5 := s5) H1 hr (by omega) G
    refine ⟨cs', h', ?_, R, H'⟩
    rw [← e]
    unfold bR3
    have cb : ((d : Int) == 0) = false := beq_eq_false_iff_ne.mpr c
    simp only [seqS_at, ifS_at, tstE_at, bin2_at, callE_at, consA_at, varE_at, cE_at, nilA_at, List.getElem?_cons_zero, bindR_ok, List.append_nil, List.length_cons, List.length_nil, Nat.zero_add, Nat.reduceAdd, if_true, ed, eq_Mi, cb, optR_some, bindFl_ok, Bool.false_eq_true, if_false, nextS_at, seqFl_nx]
theorem tail2 {h : MH} {N B r : Nat} {s2 s4 s5 : SV} {cs : List T3} (H : HOk h N B) (hr : r < N) (hB : B < 500000) (R0 : Raw 23 cs) (l9 : cs.length ≤ 9) : ∃ (cs' : List T3) (h' : MH), endFl (bR2 [.val (.ref r), .val (.int 9), s2, .val (ct cs), s4, s5, .un, .un, .un, .un] h) = .ok (ct cs') h' ∧ RoomT cs' ∧ HOk h' N (B + 5) := by
  obtain ⟨b, eb, hb⟩ := simple_ok (h := h) (R0.tok (by decide)) (by decide) (by omega : cs.length ≤ 1000)
  have lm : lenM h [ct cs] = some (.int cs.length) := by simp [ct]
  have le9 : (cs.length : Int) ≤ 9 := by omega
  cases b with
  | true =>
    obtain ⟨cs', h', e, R, H'⟩ := tail3 (s2 := s2) (s4 := s4) (s5 := s5) H hr hB ⟨R0, hb rfl, l9⟩
    refine ⟨cs', h', ?_, R, H'⟩
    rw [← e]
    unfold bR2
    simp [eb, lm, le9]
  | false =>
    obtain ⟨cs', h', e, R, H'⟩ := tail3 (s2 := s2) (s4 := s4) (s5 := s5) H hr hB tri_GR
    refine ⟨cs', h', ?_, R, H'⟩
    rw [← e]
    unfold bR2
    have et : ct tri = .lst [.tup [.int 0, .int 0, .int 1], .tup [.int 5, .int 0, .int 1], .tup [.int 0, .int 3, .int 1]] := rfl
    simp [eb, et]
theorem room_drawn {h : MH} {N B r : Nat} (H : HOk h N B) (hr : r < N) (hB : B < 400000) : ∃ (cs : List T3) (h' : MH), F__law_room [.ref r, .int 9] h = .ok (ct cs) h' ∧ RoomT cs ∧ HOk h' N (B + 100) := by
  obtain ⟨d, h1, ed, hd, H1⟩ := draw_ok (m := 4) H hr (by omega) (by omega) (by omega)
  have ed : F__law_draw [.ref r, .int 4] h = .ok (.int d) h1 := ed
  -- the first ring
  have first : ∃ (cs : List T3) (h2 : MH), ifE (tstE (bin2 eqM (peekE 2) (cE (.int 0)))) (callE (callN 2 F__law_comb) [] (consA (varE 0) (consA (bin2 addM (cE (.int 1)) (callE (callN 2 F__law_draw) [] (consA (varE 0) (consA (callB maxM (consA (bin2 divM (peekE 1) (cE (.int 3))) (consA (cE (.int 1)) nilA))) nilA)))) nilA))) (callE (callN 2 F__law_star) [] (consA (varE 0) (consA (varE 1) nilA))) [.val (.ref r), .val (.int 9), .val (.int d), .un, .un, .un, .un, .un, .un, .un] h1 = .ok (ct cs) h2 ∧ Raw 6 cs ∧ cs.length ≤ 9 ∧ HOk h2 N (B + 40) := by
    by_cases c : (d : Int) = 0
    · obtain ⟨u, h2, eu, hu, H2⟩ := draw_ok (m := 3) H1 hr (by omega) (by omega) (by omega)
      have eu : F__law_draw [.ref r, .int 3] h1 = .ok (.int u) h2 := eu
      obtain ⟨cs, h3, e, R, l, H3⟩ := comb_ok H2 hr (by omega) hu
      have e : F__law_comb [.ref r, .int (1 + (u : Int))] h2 = .ok (ct cs) h3 := by
        rw [Int.add_comm]
        exact e
      have dv : divM h1 (.int 9) (.int 3) = some (.int 3) := by
        rw [div_Mi (n := 3) (by decide) (by unfold Sz; decide)]
        rfl
      have mx : maxM h1 [.int 3, .int 1] = some (.int 3) := rfl
      refine ⟨cs, h3, ?_, R, l, H3.up (by omega)⟩
      simp [c, dv, mx, eu, e]
    · obtain ⟨cs, h3, e, R, l, H3⟩ := star_ok H1 hr (by omega)
      refine ⟨cs, h3, ?_, R, l, H3.up (by omega)⟩
      have cb : ((d : Int) == 0) = false := beq_eq_false_iff_ne.mpr c
      have c' : ¬ d = 0 := by omega
      simp [c', e]
  obtain ⟨cs, h2, e2, R2, l2, H2⟩ := first
  have full : ∀ res, F__law_room [.ref r, .int 9] h = res ↔ endFl ((seqS (setS 2 (callE (callN 2 F__law_draw) [] (consA (varE 0) (consA (cE (.int 4)) nilA)))) (seqS (setS 3 (ifE (tstE (bin2 eqM (peekE 2) (cE (.int 0)))) (callE (callN 2 F__law_comb) [] (consA (varE 0) (consA (bin2 addM (cE (.int 1)) (callE (callN 2 F__law_draw) [] (consA (varE 0) (consA (callB maxM (consA (bin2 divM (peekE 1) (cE (.int 3))) (consA (cE (.int 1)) nilA))) nilA)))) nilA))) (callE (callN 2 F__law_star) [] (consA (varE 0) (consA (varE 1) nilA))))) (seqS (ifS (tstE (bin2 gtM (peekE 2) (cE (.int 1)))) (setS 3 (callE (callN 3 F__law_grown) [] (consA (varE 0) (consA (slV (wrapL (lstO (consA (tupE (consA (cE (.int 0)) (consA (cE (.int 0)) (consA (cE (.int 1)) nilA)))) (consA (tupE (consA (cE (.int 6)) (consA (cE (.int 0)) (consA (cE (.int 1)) nilA)))) (consA (tupE (consA (cE (.int 6)) (consA (cE (.int 4)) (consA (cE (.int 1)) nilA)))) (consA (tupE (consA (cE (.int 0)) (consA (cE (.int 5)) (consA (cE (.int 1)) nilA)))) nilA)))))) noP (prtP (bin2 addM (cE (.int 3)) (callE (callN 2 F__law_draw) [] (consA (varE 0) (consA (cE (.int 2)) nilA)))))) (consA (callB maxM (consA (bin2 subM (peekE 1) (cE (.int 4))) (consA (cE (.int 0)) nilA))) nilA))))) nextS) bR2))) [.val (.ref r), .val (.int 9), .un, .un, .un, .un, .un, .un, .un, .un] h) = res := by
    intro res
    unfold F__law_room b__law_room
    rw [bodyF_at]
    exact Iff.rfl
  by_cases c : 1 < (d : Int)
  · obtain ⟨v, h3, ev, hv, H3⟩ := draw_ok (m := 2) H2 hr (by omega) (by omega) (by omega)
    have ev : F__law_draw [.ref r, .int 2] h2 = .ok (.int v) h3 := ev
    have four : ∃ q : List T3, cutL [.tup [.int 0, .int 0, .int 1], .tup [.int 6, .int 0, .int 1], .tup [.int 6, .int 4, .int 1], .tup [.int 0, .int 5, .int 1]] none (some (3 + (v : Int))) = q.map trv ∧ Raw 3 q ∧ 0 < q.length ∧ q.length ≤ 4 := by
      have : v = 0 ∨ v = 1 := by omega
      have sz : ∀ x ∈ [(0 : Int), 6, 4, 5], Sz 3 x := by unfold Sz; decide
      rcases this with rfl | rfl
      · refine ⟨[(0, 0, 1), (6, 0, 1), (6, 4, 1)], rfl, ?_, by decide, by decide⟩
        intro t ht
        simp only [List.mem_cons, List.not_mem_nil, or_false] at ht
        rcases ht with rfl | rfl | rfl <;> exact ⟨by unfold Sz; decide, by unfold Sz; decide, rfl⟩
      · refine ⟨[(0, 0, 1), (6, 0, 1), (6, 4, 1), (0, 5, 1)], rfl, ?_, by decide, by decide⟩
        intro t ht
        simp only [List.mem_cons, List.not_mem_nil, or_false] at ht
        rcases ht with rfl | rfl | rfl | rfl <;> exact ⟨by unfold Sz; decide, by unfold Sz; decide, rfl⟩
    obtain ⟨q, eq, Rq, l0, l4⟩ := four
    obtain ⟨g, h4, eg, Rg, lg, H4⟩ := grown_ok H3 hr (by omega) Rq l0 l4
    have eg : F__law_grown [.ref r, .lst (q.map trv), .int 5] h3 = .ok (ct g) h4 := eg
    obtain ⟨cs', h', e, R, H'⟩ := tail2 (s2 := .val (.int d)) (s4 := .un) (s5 := .un) H4 hr (by omega) Rg lg
    refine ⟨cs', h', (full _).mpr ?_, R, H'.up (by omega)⟩
    rw [← e]
    have mx : maxM h3 [.int 5, .int 0] = some (.int 5) := rfl
    rw [seqS_at, setS_at]
    simp only [callE_at, consA_at, varE_at, cE_at, nilA_at, List.getElem?_cons_zero, bindR_ok, List.append_nil, List.length_cons, List.length_nil, Nat.zero_add, Nat.reduceAdd, if_true, ed, bindFl_ok, seqFl_nx]
    rw [seqS_at, setS_at]
    simp only [List.set_cons_zero, List.set_cons_succ]
    rw [e2]
    simp [c, ev, eq, eg, mx, bR2]
  · obtain ⟨cs', h', e, R, H'⟩ := tail2 (s2 := .val (.int d)) (s4 := .un) (s5 := .un) H2 hr (by omega) (R2.up (by decide)) l2
    refine ⟨cs', h', (full _).mpr ?_, R, H'.up (by omega)⟩
    rw [← e]
    rw [seqS_at, setS_at]
    simp only [callE_at, consA_at, varE_at, cE_at, nilA_at, List.getElem?_cons_zero, bindR_ok, List.append_nil, List.length_cons, List.length_nil, Nat.zero_add, Nat.reduceAdd, if_true, ed, bindFl_ok, seqFl_nx]
    rw [seqS_at, setS_at]
    simp only [List.set_cons_zero, List.set_cons_succ]
    rw [e2]
    simp [c, bR2]
end K84
end P_Q20
section P_Q21
set_option Elab.async false
set_option linter.all false
set_option maxRecDepth 100000
set_option maxHeartbeats 4000000
set_option exponentiation.threshold 10000
namespace Mi
open PySem PySem.Spec PyProof.Rows L2 TL
/-- plain data of at most n layers -/
def dV : Nat → MV → Bool
  | _, .non | _, .bl _ | _, .int _ => true
  | _, .str s => s.all (· < 0x110000)
  | n + 1, .lst xs => decide (xs.length ≤ zl) && xs.all (dV n)
  | n + 1, .tup xs => decide (xs.length ≤ zl) && xs.all (dV n)
  | _, _ => false
theorem dV_ok : ∀ {n : Nat} {x : MV}, dV n x = true → ∀ k, okV (n + k) x = true
  | n, .non, _, k => by cases h : n + k <;> rfl
  | n, .bl _, _, k => by cases h : n + k <;> rfl
  | n, .int _, _, k => by cases h : n + k <;> rfl
  | n, .str s, h, k => by
    have h : s.all (· < 0x110000) = true := by cases n <;> exact h
    cases n + k <;> exact h
  | 0, .lst xs, h, k => by simp [dV] at h
  | 0, .tup xs, h, k => by simp [dV] at h
  | n + 1, .lst xs, h, k => by
    rw [show n + 1 + k = (n + k) + 1 by omega]
    simp only [dV, Bool.and_eq_true, List.all_eq_true] at h
    show xs.all (okV (n + k)) = true
    rw [List.all_eq_true]
    exact fun x hx => dV_ok (h.2 x hx) k
  | n + 1, .tup xs, h, k => by
    rw [show n + 1 + k = (n + k) + 1 by omega]
    simp only [dV, Bool.and_eq_true, List.all_eq_true] at h
    show xs.all (okV (n + k)) = true
    rw [List.all_eq_true]
    exact fun x hx => dV_ok (h.2 x hx) k
  | n, .dic _, h, k => by cases n <;> simp [dV] at h
  | n, .ref _, h, k => by cases n <;> simp [dV] at h
  | n, .exc _ _, h, k => by cases n <;> simp [dV] at h
  | n, .scr _, h, k => by cases n <;> simp [dV] at h
theorem meqs_refl : ∀ xs : List MV, (∀ x ∈ xs, meq x x = true) → meqs xs xs = true
  | [], _ => by simp [meqs]
  | x :: xs, h => by
    simp only [meqs, h x List.mem_cons_self, meqs_refl xs fun y hy => h y (List.mem_cons_of_mem _ hy), Bool.and_self]
theorem meq_refl : ∀ {n : Nat} {x : MV}, dV n x = true → meq x x = true
  | n, .non, _ => by simp [meq]
  | n, .bl _, _ => by simp [meq]
  | n, .int _, _ => by simp [meq]
  | n, .str s, h => by simp [meq]
  | 0, .lst xs, h => by simp [dV] at h
  | 0, .tup xs, h => by simp [dV] at h
  | n + 1, .lst xs, h => by
    simp only [dV, Bool.and_eq_true, List.all_eq_true] at h
    simp only [meq]
    exact meqs_refl xs fun x hx => meq_refl (h.2 x hx)
  | n + 1, .tup xs, h => by
    simp only [dV, Bool.and_eq_true, List.all_eq_true] at h
    simp only [meq]
    exact meqs_refl xs fun x hx => meq_refl (h.2 x hx)
  | n, .dic _, h => by cases n <;> simp [dV] at h
  | n, .ref _, h => by cases n <;> simp [dV] at h
  | n, .exc _ _, h => by cases n <;> simp [dV] at h
  | n, .scr _, h => by cases n <;> simp [dV] at h
theorem eq_refl_M {n : Nat} {x : MV} {h : MH} (d : dV n x = true) (l : n ≤ 40 := by decide) : eqM h x x = some (.bl true) := by
  unfold eqM
  have ok : okD x = true := by
    have := dV_ok d (40 - n)
    rwa [show n + (40 - n) = 40 by omega] at this
  rw [if_pos ⟨ok, ok⟩, meq_refl d]
theorem ne_refl_M {n : Nat} {x : MV} {h : MH} (d : dV n x = true) (l : n ≤ 40 := by decide) : neM h x x = some (.bl false) := by
  unfold neM
  have ok : okD x = true := by
    have := dV_ok d (40 - n)
    rwa [show n + (40 - n) = 40 by omega] at this
  rw [if_pos ⟨ok, ok⟩, meq_refl d]
  rfl
theorem zipL_self : ∀ xs : List MV, zipL xs xs = xs.map fun m => .tup [m, m]
  | [] => rfl
  | x :: xs => by
    rw [zipL, zipL_self xs]
    rfl
@[simp] theorem callKE_at (n n1 n2 : Nat) (F : List MV → MH → Res MV) (perm : List Nat) (fs gs : OM) (σ : Sl) (h : MH) : callKE n n1 n2 F perm fs gs σ h = bindR (fs σ h) fun us h1 => bindR (gs σ h1) fun ws h2 => if us.length = n1 ∧ ws.length = n2 ∧ (sel perm (us ++ ws)).length = n then F (sel perm (us ++ ws)) h2 else .no := (rfl)
end Mi
namespace K84
open PySem PySem.Spec PyProof.Rows L2 Mi TL

theorem copied_n : ∀ (n : Nat) (x : MV) (h : MH), dV n x = true → F__law_copied_ (n + 1) [x] h = .ok x h := by
  intro n
  induction n with
  | zero =>
    intro x h d
    unfold F__law_copied_ b__law_copied
    rw [bodyF_at]
    cases x with
    | lst _ => simp [dV] at d
    | tup _ => simp [dV] at d
    | dic _ => simp [dV] at d
    | ref _ => simp [dV] at d
    | exc _ _ => simp [dV] at d
    | scr _ => simp [dV] at d
    | _ => simp [isB]
  | succ n ih =>
    intro x h d
    unfold F__law_copied_ b__law_copied
    rw [bodyF_at]
    cases x with
    | lst xs =>
      simp only [dV, Bool.and_eq_true, decide_eq_true_eq, List.all_eq_true] at d
      have e := compO_data (vs := [1]) (fi := itAny (varE 0)) (t := nameT 1) (f := callE (callN 1 (F__law_copied_ (n + 1))) [] (consA (varE 1) nilA)) (σ := [.val (.lst xs), .un, .un]) (h := h) (xs := xs) id id (by simp) d.1 (by
        intro m hm
        refine ⟨_, rfl, ?_⟩
        simp [wipeM, ih m h (d.2 m hm)])
      simp [isB, e]
    | tup xs =>
      simp only [dV, Bool.and_eq_true, decide_eq_true_eq, List.all_eq_true] at d
      have e := compO_data (vs := [1]) (fi := itAny (varE 0)) (t := nameT 1) (f := callE (callN 1 (F__law_copied_ (n + 1))) [] (consA (varE 1) nilA)) (σ := [.val (.tup xs), .un, .un]) (h := h) (xs := xs) id id (by simp) d.1 (by
        intro m hm
        refine ⟨_, rfl, ?_⟩
        simp [wipeM, ih m h (d.2 m hm)])
      simp [isB, e, tupleM]
    | dic _ => simp [dV] at d
    | ref _ => simp [dV] at d
    | exc _ _ => simp [dV] at d
    | scr _ => simp [dV] at d
    | _ => simp [isB]
theorem copied_ok {x : MV} {h : MH} (d : dV 11 x = true) : F__law_copied [x] h = .ok x h := copied_n 11 x h d
theorem exact_n : ∀ (n : Nat), n < 30 → ∀ (x : MV) (h : MH), dV n x = true → F__law_exact_ (n + 1) [x, x] h = .ok (.bl true) h := by
  intro n
  induction n with
  | zero =>
    intro _ x h d
    have er := eq_refl_M (h := h) d
    unfold F__law_exact_ b__law_exact
    rw [bodyF_at]
    cases x with
    | lst _ => simp [dV] at d
    | tup _ => simp [dV] at d
    | dic _ => simp [dV] at d
    | ref _ => simp [dV] at d
    | exc _ _ => simp [dV] at d
    | scr _ => simp [dV] at d
    | non => simp [isB, isN, er]
    | bl _ => simp [isB, isN]
    | int _ => simp [isB, isN]
    | str _ => simp [isB, isN, er]
  | succ n ih =>
    intro hn x h d
    have er := eq_refl_M (h := h) d (by omega)
    unfold F__law_exact_ b__law_exact
    rw [bodyF_at]
    cases x with
    | lst xs =>
      simp only [dV, Bool.and_eq_true, decide_eq_true_eq, List.all_eq_true] at d
      have e := fun s2 s3 s4 => compO_data (vs := [5, 6]) (fi := itB zipM (consA (varE 0) (consA (varE 1) nilA))) (t := tupT 2 (consT (nameT 5) (consT (nameT 6) nilT))) (f := callE (callN 2 (F__law_exact_ (n + 1))) [] (consA (varE 5) (consA (varE 6) nilA))) (σ := [.val (.lst xs), .val (.lst xs), s2, s3, s4, .un, .un]) (h := h) (xs := xs) (fun m => .tup [m, m]) (fun _ => .bl true) (by simp [zipM, zipL_self]) d.1 (by
        intro m hm
        refine ⟨_, rfl, ?_⟩
        simp [wipeM, ih (by omega) m h (d.2 m hm)])
      have a := allBM_map (fun _ : MV => true) xs h
      rw [List.all_eq_true.mpr fun _ _ => rfl] at a
      simp [isB, e, a]
    | tup xs =>
      simp only [dV, Bool.and_eq_true, decide_eq_true_eq, List.all_eq_true] at d
      have e := fun s2 s3 s4 => compO_data (vs := [5, 6]) (fi := itB zipM (consA (varE 0) (consA (varE 1) nilA))) (t := tupT 2 (consT (nameT 5) (consT (nameT 6) nilT))) (f := callE (callN 2 (F__law_exact_ (n + 1))) [] (consA (varE 5) (consA (varE 6) nilA))) (σ := [.val (.tup xs), .val (.tup xs), s2, s3, s4, .un, .un]) (h := h) (xs := xs) (fun m => .tup [m, m]) (fun _ => .bl true) (by simp [zipM, zipL_self]) d.1 (by
        intro m hm
        refine ⟨_, rfl, ?_⟩
        simp [wipeM, ih (by omega) m h (d.2 m hm)])
      have a := allBM_map (fun _ : MV => true) xs h
      rw [List.all_eq_true.mpr fun _ _ => rfl] at a
      simp [isB, e, a]
    | dic _ => simp [dV] at d
    | ref _ => simp [dV] at d
    | exc _ _ => simp [dV] at d
    | scr _ => simp [dV] at d
    | non => simp [isB, isN, er]
    | bl _ => simp [isB, isN]
    | int _ => simp [isB, isN]
    | str _ => simp [isB, isN, er]
theorem exact_ok {x : MV} {h : MH} (d : dV 11 x = true) : F__law_exact [x, x] h = .ok (.bl true) h := exact_n 11 (by decide) x h d
theorem told_ok {cs : List T3} {h : MH} (hw : ∀ t ∈ cs, 0 < t.2.2 ∧ t.2.2 < 1000000) (l : cs.length ≤ 1000) : F__law_told_room [ct cs] h = .ok (cq (cs.map toPt)) h := by
  have z : zl = 16777216 := rfl
  unfold F__law_told_room b__law_told_room
  rw [bodyF_at]
  have e := compO_data (vs := [1]) (fi := itAny (varE 0)) (t := nameT 1) (f := callE (callN 1 F__law_out) [] (consA (varE 1) nilA)) (σ := [.val (ct cs), .un]) (h := h) (xs := cs) trv (fun t => pq (toPt t)) (by simp [ct]) (by omega) (by
    intro t ht
    refine ⟨_, rfl, ?_⟩
    simp [wipeM, out_ok (hw t ht).1 (hw t ht).2])
  simp [e]
  unfold cq
  rw [List.map_map]
  rfl
end K84
end P_Q21
section P_Q22
set_option Elab.async false
set_option linter.all false
set_option maxRecDepth 100000
set_option maxHeartbeats 4000000
set_option exponentiation.threshold 10000
namespace K84
open PySem PySem.Spec PyProof.Rows L2 Mi TL

/-! pictures as data -/
theorem row_small (f : Nat → Nat → Wd) (w y : Nat) : ∀ c ∈ rowP f w y, c < 256 ∧ c ≠ 10 := by
  intro c hc
  obtain ⟨x, _, rfl⟩ := List.mem_map.mp hc
  cases f x y <;> decide
theorem joinL_small : ∀ ps : List (List Nat), (∀ p ∈ ps, ∀ c ∈ p, c < 256) → ∀ c ∈ joinL [10] ps, c < 256
  | [], _, c, h => by cases h
  | [p], hp, c, h => hp p List.mem_cons_self c h
  | p :: q :: r, hp, c, h => by
    have h : c ∈ p ++ ([10] ++ joinL [10] (q :: r)) := h
    rcases List.mem_append.mp h with h | h
    · exact hp p List.mem_cons_self c h
    · rcases List.mem_append.mp h with h | h
      · rw [List.mem_singleton.mp h]
        decide
      · exact joinL_small (q :: r) (fun x hx => hp x (List.mem_cons_of_mem _ hx)) c h
theorem rows_small (f : Nat → Nat → Wd) (w v : Nat) : ∀ p ∈ rowsP f w v, ∀ c ∈ p, c < 256 ∧ c ≠ 10 := by
  intro p hp
  obtain ⟨i, _, rfl⟩ := List.mem_map.mp hp
  exact row_small f w _
theorem pic_small (f : Nat → Nat → Wd) (w v : Nat) : ∀ c ∈ picP f w v, c < 256 := joinL_small _ fun p hp c hc => (rows_small f w v p hp c hc).1
theorem dV_str {n : Nat} {s : List Nat} (h : ∀ c ∈ s, c < 256) : dV n (.str s) = true := by
  have : s.all (· < 0x110000) = true := by
    rw [List.all_eq_true]
    intro c hc
    have := h c hc
    simp
    omega
  cases n <;> exact this
theorem joinL_len (S : List Nat) : ∀ ps : List (List Nat), (joinL S ps).length ≤ (ps.map List.length).sum + ps.length * S.length
  | [] => by simp [joinL]
  | [p] => by simp [joinL]
  | p :: q :: r => by
    have ih := joinL_len S (q :: r)
    show (p ++ (S ++ joinL S (q :: r))).length ≤ _
    rw [List.length_append, List.length_append, List.map_cons, List.sum_cons, List.length_cons, Nat.succ_mul]
    omega
theorem pic_len {f : Nat → Nat → Wd} {w v : Nat} (lw : w < 1000) (lv : v < 1000) : (picP f w v).length ≤ 2000000 := by
  refine Nat.le_trans (joinL_len _ _) ?_
  unfold rowsP
  rw [sum_const (w + 1) _ _ (fun i _ => row_len f w _)]
  simp
  have : (v + 1) * (w + 1) ≤ 1000 * 1000 := Nat.mul_le_mul (by omega) (by omega)
  omega
theorem split_pic {f : Nat → Nat → Wd} {w v : Nat} {h : MH} (lw : w < 1000) (lv : v < 1000) : splitM (picP f w v) h [.str [10]] = some ((rowsP f w v).map .str) := by
  have z : zl = 16777216 := rfl
  have l := pic_len (f := f) lw lv
  refine split_M (S := []) rfl (by decide) ?_ ?_ (by omega) (by simp [rowsP]; omega)
  · intro e
    have := congrArg List.length e
    simp [rowsP] at this
  · intro p hp hc
    exact (rows_small f w v p hp 10 hc).2 rfl
theorem dV_rows {f : Nat → Nat → Wd} {w v n : Nat} (lv : v < 1000) : dV (n + 1) (.lst ((rowsP f w v).map .str)) = true := by
  have z : zl = 16777216 := rfl
  simp only [dV, Bool.and_eq_true, decide_eq_true_eq, List.all_eq_true]
  refine ⟨by simp [rowsP]; omega, ?_⟩
  intro x hx
  obtain ⟨p, hp, rfl⟩ := List.mem_map.mp hx
  exact dV_str fun c hc => (rows_small f w v p hp c hc).1
theorem dV_cq {ps : List Pt} {n : Nat} (l : ps.length ≤ 1000) : dV (n + 3) (cq ps) = true := by
  have z : zl = 16777216 := rfl
  unfold cq
  simp only [dV, Bool.and_eq_true, decide_eq_true_eq, List.all_eq_true]
  refine ⟨by rw [List.length_map]; omega, ?_⟩
  intro x hx
  obtain ⟨p, hp, rfl⟩ := List.mem_map.mp hx
  simp [pq, fr, dV]
def words2 : MV := .dic [(.inr (toS [43]), .str [99, 111, 114, 110, 101, 114]), (.inr (toS [45]), .str [119, 97, 108, 108]), (.inr (toS [35]), .str [105, 110, 115, 105, 100, 101]), (.inr (toS [46]), .str [111, 117, 116, 115, 105, 100, 101])]
theorem words2_ok {h : MH} {σ : Sl} : dispE (consD (cE (.str [43])) (cE (.str [99, 111, 114, 110, 101, 114])) (consD (cE (.str [45])) (cE (.str [119, 97, 108, 108])) (consD (cE (.str [35])) (cE (.str [105, 110, 115, 105, 100, 101])) (consD (cE (.str [46])) (cE (.str [111, 117, 116, 115, 105, 100, 101])) nilD)))) σ h = .ok words2 h := by
  rw [dispE_at]
  simp only [consD_at, nilD_at, cE_at, bindR_ok, keyM]
  rw [if_pos (by simp)]
  rfl
theorem word2_ok {h : MH} (d : Wd) : ixDM h words2 (.str [sgn d]) = some (.str (wdS d)) := by
  cases d <;> rfl
theorem pq_pt1 (x y : Nat) : pq (toPt (pt1 x y)) = .tup [.tup [.int x, .int 1], .tup [.int y, .int 1]] := by
  rw [toPt_1 (t := pt1 x y) rfl]
  unfold pq fr pt1
  simp
theorem Bp_pt1 {x y : Nat} (hx : x < 2 ^ 20) (hy : y < 2 ^ 20) : Bp 30 (toPt (pt1 x y)) := by
  have k := pt1_ok hx hy
  exact ⟨(Bq.divInt k.p k.x k.w).up (by decide), (Bq.divInt k.p k.y k.w).up (by decide)⟩
/-! the moved room -/
def far3 (t : T3) : T3 := (t.1 + 3 * t.2.2, t.2.1 + 2 * t.2.2, t.2.2)
theorem far_pt {t : T3} (h : 0 < t.2.2) : toPt (far3 t) = mv (3, 2) (toPt t) := by
  have a1 := cast_mul_div (x := t.1 + 3 * t.2.2) h
  have b1 := cast_mul_div (x := t.1) h
  have a2 := cast_mul_div (x := t.2.1 + 2 * t.2.2) h
  have b2 := cast_mul_div (x := t.2.1) h
  have p := pos_cast h
  rw [Rat.intCast_add, Rat.intCast_mul] at a1 a2
  unfold toPt far3 mv
  dsimp only
  generalize Rat.divInt (t.1 + 3 * t.2.2) t.2.2 = x1 at *
  generalize Rat.divInt (t.2.1 + 2 * t.2.2) t.2.2 = x2 at *
  generalize Rat.divInt t.1 t.2.2 = y1 at *
  generalize Rat.divInt t.2.1 t.2.2 = y2 at *
  generalize (t.2.2 : Rat) = w at *
  have c3 : ((3 : Int) : Rat) = 3 := rfl
  have c2 : ((2 : Int) : Rat) = 2 := rfl
  rw [c3] at a1
  rw [c2] at a2
  have e1 : w * (x1 - (y1 + 3)) = 0 := by grind
  have e2 : w * (x2 - (y2 + 2)) = 0 := by grind
  have w0 : w ≠ 0 := by grind
  refine Prod.ext ?_ ?_
  · rcases Rat.mul_eq_zero.mp e1 with z | z
    · exact absurd z w0
    · dsimp only
      grind
  · rcases Rat.mul_eq_zero.mp e2 with z | z
    · exact absurd z w0
    · dsimp only
      grind
theorem far_map {cs : List T3} (hw : ∀ t ∈ cs, 0 < t.2.2) : (cs.map far3).map toPt = (cs.map toPt).map (mv (3, 2)) := by
  rw [List.map_map, List.map_map]
  exact List.map_congr_left fun t ht => far_pt (hw t ht)
theorem Sz3 {n : Nat} {i : Int} (h : Sz n i) : Sz (n + 2) (3 * i) := by
  have : Sz 2 (3 : Int) := by unfold Sz; decide
  exact (this.mul h).up (by omega)
theorem Sz2 {n : Nat} {i : Int} (h : Sz n i) : Sz (n + 2) (2 * i) := by
  have : Sz 2 (2 : Int) := by unfold Sz; decide
  exact (this.mul h).up (by omega)
theorem far_room {cs : List T3} (R : RoomT cs) : RoomQ ((cs.map toPt).map (mv (3, 2))) := by
  have gd : Good ((cs.map toPt).map (mv (3, 2))) := R.good.map (mv_keep _)
  have hw : ∀ t ∈ cs, 0 < t.2.2 := fun t ht => (R.tok t ht).p
  refine ⟨by rw [List.length_map]; exact R.room.l, by rw [List.length_map]; exact R.room.l3, ?_, gd.nodup, gd.straight, gd.noMeet, by rw [dbl_mv]; exact R.room.ab⟩
  rw [← far_map hw]
  intro q hq
  obtain ⟨t, ht, rfl⟩ := List.mem_map.mp hq
  obtain ⟨s, hs, rfl⟩ := List.mem_map.mp ht
  have k := R.tok s hs
  exact ⟨(Bq.divInt (n := 30) k.p ((k.x.add (Sz3 k.w)).up (by decide)) (k.w.up (by decide))), (Bq.divInt (n := 30) k.p ((k.y.add (Sz2 k.w)).up (by decide)) (k.w.up (by decide)))⟩
theorem pt1_mv (x y : Nat) : toPt (pt1 (x + 3) (y + 2)) = mv (3, 2) (toPt (pt1 x y)) := by
  rw [toPt_1 (t := pt1 (x + 3) (y + 2)) rfl, toPt_1 (t := pt1 x y) rfl]
  unfold pt1 mv
  simp [Rat.intCast_add]
theorem fQ_mv (ps : List Pt) (x y : Nat) : fQ (ps.map (mv (3, 2))) (x + 3) (y + 2) = fQ ps x y := by
  unfold fQ
  rw [pt1_mv, where_mv]
theorem row_mv (ps : List Pt) (w y : Nat) : (rowP (fQ (ps.map (mv (3, 2)))) (w + 3) (y + 2)).drop 3 = rowP (fQ ps) w y := by
  unfold rowP
  rw [← List.map_drop]
  refine List.ext_getElem (by simp) fun i h1 h2 => ?_
  simp
  have := fQ_mv ps i y
  rw [show i + 3 = 3 + i by omega] at this
  rw [this]
theorem rows_mv (ps : List Pt) (w v : Nat) : ((rowsP (fQ (ps.map (mv (3, 2)))) (w + 3) (v + 2)).take (v + 1)).map (fun r => r.drop 3) = rowsP (fQ ps) w v := by
  unfold rowsP
  rw [← List.map_take, List.map_map]
  refine List.ext_getElem (by simp) fun i h1 h2 => ?_
  simp at h1 h2
  simp
  rw [show v + 2 - i = (v - i) + 2 by omega, row_mv]
end K84
end P_Q22
section P_Q23
set_option Elab.async false
set_option linter.all false
set_option maxRecDepth 100000
set_option maxHeartbeats 4000000
set_option exponentiation.threshold 10000
namespace K84
open PySem PySem.Spec PyProof.Rows L2 Mi TL

def bRt : SM := (seqS (par2S 9 10 (.v (callE (callN 2 F__law_draw) [] (consA (varE 0) (consA (bin2 addM (peekE 3) (cE (.int 1))) nilA)))) (.v (callE (callN 2 F__law_draw) [] (consA (varE 0) (consA (bin2 addM (peekE 4) (cE (.int 1))) nilA))))) (ifS (tstE (bin2 neM (bin2 ixDM (dispE (consD (cE (.str [43])) (cE (.str [99, 111, 114, 110, 101, 114])) (consD (cE (.str [45])) (cE (.str [119, 97, 108, 108])) (consD (cE (.str [35])) (cE (.str [105, 110, 115, 105, 100, 101])) (consD (cE (.str [46])) (cE (.str [111, 117, 116, 115, 105, 100, 101])) nilD))))) (bin2 ixDM (bin2 ixDM (peekE 7) (bin2 subM (peekE 4) (peekE 10))) (peekE 9))) (callE (callN 2 F_where_is) [] (consA (varE 2) (consA (tupE (consA (tupE (consA (varE 9) (consA (cE (.int 1)) nilA))) (consA (tupE (consA (varE 10) (consA (cE (.int 1)) nilA))) nilA))) nilA))))) (retS (cE (.bl false))) nextS))
theorem ix_str {h : MH} {s : List Nat} {i c : Nat} (l : s.length ≤ zl) (g : s[i]? = some c) : ixDM h (.str s) (.int (i : Int)) = some (.str [c]) := by
  show (if s.length ≤ zl then (atI s (i : Int)).map (fun c => MV.str [c]) else none) = _
  rw [if_pos l, atI_n, g]
  rfl
theorem right_ok {h : MH} {N B r : Nat} {cs : List T3} (H : HOk h N B) (hr : r < N) (hB : B < 400000) (R : RoomT cs) : ∃ h', F__law_right [.ref r, ct cs] h = .ok (.bl true) h' ∧ HOk h' N (B + 12) := by
  have z : zl = 16777216 := rfl
  have l12 : cs.length ≤ 12 := by have := R.room.l; rwa [List.length_map] at this
  have hw : ∀ t ∈ cs, 0 < t.2.2 ∧ t.2.2 < 1000000 := fun t ht => ⟨(R.tok t ht).p, R.w t ht⟩
  obtain ⟨w, h1, ew, lw, H1⟩ := draw_ok (m := 10) H hr (by omega) (by omega) (by omega)
  obtain ⟨v, h2, ev, lv, H2⟩ := draw_ok (m := 10) H1 hr (by omega) (by omega) (by omega)
  have ew : F__law_draw [.ref r, .int 10] h = .ok (.int w) h1 := ew
  have ev : F__law_draw [.ref r, .int 10] h1 = .ok (.int v) h2 := ev
  have td := told_ok (h := h) hw (by omega)
  have lp : (cs.map toPt).length ≤ 1000 := by rw [List.length_map]; omega
  generalize hps : cs.map toPt = ps at *
  have cp := copied_ok (h := h2) (dV_cq (n := 8) lp)
  have pc := law_picture_ok (cs := cs) (w := w) (v := v) (h := h2) (fun t ht => (R.tok t ht).up (by decide)) (by omega) (by omega) (by omega)
  have hf : fC cs = fQ ps := by rw [fC_fQ, hps]
  rw [hf] at pc
  have Rq : RoomQ ps := hps ▸ R.room
  have Gq : Good ps := hps ▸ R.good
  have rp := room_picture_ok (w := w) (v := v) (h := h2) Rq (by omega) (by omega)
  have ex1 := exact_ok (x := .lst [.str (picP (fQ ps) w v), .str (picP (fQ ps) w v)]) (h := h2) (by
    have := dV_str (n := 10) (pic_small (fQ ps) w v)
    show (decide _ && List.all _ _) = true
    simp [this])
  have sp := split_pic (f := fQ ps) (w := w) (v := v) (h := h2) (by omega) (by omega)
  -- the turns
  obtain ⟨σ', h3, e3, s8, s9, s10, rfl, _, H3⟩ := forL_inv (α := Nat) (t := nameT 8) (b := bRt) (fun i : Nat => .int i)
    (fun pre post σ h' => ∃ s8 s9 s10, σ = [.val (.ref r), .val (ct cs), .val (cq ps), .val (.int w), .val (.int v), .val (cq ps), .val (.str (picP (fQ ps) w v)), .val (.lst ((rowsP (fQ ps) w v).map .str)), s8, s9, s10, .un, .un, .un, .un] ∧ pre ++ post = [0, 1, 2, 3, 4] ∧ HOk h' N (B + 2 + 2 * pre.length))
    (by
      rintro pre i post σ h' ⟨s8, s9, s10, rfl, he, H3⟩
      refine ⟨_, rfl, ?_⟩
      have lpre : pre.length < 5 := by
        have := congrArg List.length he
        simp at this
        omega
      obtain ⟨x, h4, ex, lx, H4⟩ := draw_ok (m := w + 1) H3 hr (by omega) (by omega) (by omega)
      obtain ⟨y, h5, ey, ly, H5⟩ := draw_ok (m := v + 1) H4 hr (by omega) (by omega) (by omega)
      have ex : F__law_draw [.ref r, .int ((w : Int) + 1)] h' = .ok (.int x) h4 := ex
      have ey : F__law_draw [.ref r, .int ((v : Int) + 1)] h4 = .ok (.int y) h5 := ey
      refine ⟨[.val (.ref r), .val (ct cs), .val (cq ps), .val (.int w), .val (.int v), .val (cq ps), .val (.str (picP (fQ ps) w v)), .val (.lst ((rowsP (fQ ps) w v).map .str)), .val (.int i), .val (.int x), .val (.int y), .un, .un, .un, .un], h5, .inl ?_, _, _, _, rfl, by simpa using he, by rw [List.length_append]; exact H5.up (by simp; omega)⟩
      have g1 : atI ((rowsP (fQ ps) w v).map MV.str) ((v : Int) - (y : Int)) = some (.str (rowP (fQ ps) w y)) := by
        rw [show (v : Int) - (y : Int) = ((v - y : Nat) : Int) by omega, atI_n]
        unfold rowsP
        rw [List.getElem?_map, List.getElem?_map, List.getElem?_range (by omega)]
        show some (MV.str (rowP (fQ ps) w (v - (v - y)))) = _
        rw [show v - (v - y) = y by omega]
      have g2 : (rowP (fQ ps) w y)[x]? = some (sgn (fQ ps x y)) := by
        unfold rowP
        rw [List.getElem?_map, List.getElem?_range lx]
        rfl
      have g3 := ix_str (h := h5) (by rw [row_len]; omega) g2
      have wi := where_is_ok (h := h5) Rq (Bp_pt1 (x := x) (y := y) (by omega) (by omega))
      rw [← where_same Gq, pq_pt1] at wi
      have wi : F_where_is [cq ps, .tup [.tup [.int x, .int 1], .tup [.int y, .int 1]]] h5 = .ok (.str (wdS (fQ ps x y))) h5 := wi
      have ne := ne_refl_M (n := 0) (h := h5) (x := .str (wdS (fQ ps x y))) (by cases fQ ps x y <;> decide)
      unfold bRt
      simp [ex, ey, words2_ok, -dispE_at, g1, g3, word2_ok, wi, ne])
    [0, 1, 2, 3, 4] [] [.val (.ref r), .val (ct cs), .val (cq ps), .val (.int w), .val (.int v), .val (cq ps), .val (.str (picP (fQ ps) w v)), .val (.lst ((rowsP (fQ ps) w v).map .str)), .un, .un, .un, .un, .un, .un, .un] h2 ⟨_, _, _, rfl, rfl, by simpa using H2⟩
  refine ⟨h3, ?_, H3⟩
  -- the room moved
  have fr_ := far_room R
  have ffe := far_map (cs := cs) fun t ht => (hw t ht).1
  rw [hps] at fr_ ffe
  have k3 : Sz 2 (3 : Int) := by unfold Sz; decide
  have k2 : Sz 2 (2 : Int) := by unfold Sz; decide
  have e4 := compO_data (vs := [9, 10, 13]) (fi := itAny (varE 1)) (t := tupT 3 (consT (nameT 9) (consT (nameT 10) (consT (nameT 13) nilT)))) (f := tupE (consA (bin2 addM (peekE 9) (bin2 mulM (cE (.int 3)) (peekE 13))) (consA (bin2 addM (peekE 10) (bin2 mulM (cE (.int 2)) (peekE 13))) (consA (varE 13) nilA)))) (σ := [.val (.ref r), .val (ct cs), .val (cq ps), .val (.int w), .val (.int v), .val (cq ps), .val (.str (picP (fQ ps) w v)), .val (.lst ((rowsP (fQ ps) w v).map .str)), s8, s9, s10, .un, .un, .un, .un]) (h := h3) (xs := cs) trv (fun t => trv (far3 t)) (by simp [ct]) (by omega) (by
    intro t ht
    refine ⟨_, rfl, ?_⟩
    have k := R.tok t ht
    simp [wipeM, mul_M k3 k.w, mul_M k2 k.w, trv, far3])
  have e4' : (cs.map fun t => trv (far3 t)) = (cs.map far3).map trv := by rw [List.map_map]; rfl
  rw [e4'] at e4
  have td2 := told_ok (cs := cs.map far3) (h := h3) (by
    intro t ht
    obtain ⟨s, hs, rfl⟩ := List.mem_map.mp ht
    exact hw s hs) (by rw [List.length_map]; omega)
  rw [ffe] at td2
  have rp2 := room_picture_ok (w := w + 3) (v := v + 2) (h := h3) fr_ (by omega) (by omega)
  have rp2 : F_room_picture [cq (ps.map (mv (3, 2))), .int ((w : Int) + 3), .int ((v : Int) + 2)] h3 = _ := rp2
  have sp2 := split_pic (f := fQ (ps.map (mv (3, 2)))) (w := w + 3) (v := v + 2) (h := h3) (by omega) (by omega)
  have ex2 := exact_ok (x := cq ps) (h := h3) (dV_cq (n := 8) lp)
  have er := eq_refl_M (h := h3) (dV_rows (f := fQ ps) (w := w) (v := v) (n := 0) (by omega))
  have rm := rows_mv ps w v
  generalize hL : rowsP (fQ (ps.map (mv (3, 2)))) (w + 3) (v + 2) = L at *
  have lL : L.length = v + 3 := by rw [← hL]; simp [rowsP]
  have sL : ∀ p ∈ L, p.length ≤ zl := by
    intro p hp
    rw [← hL] at hp
    obtain ⟨i, _, rfl⟩ := List.mem_map.mp hp
    rw [row_len]
    omega
  have c5 : cutL (L.map MV.str) none (some ((v : Int) + 1)) = (L.take (v + 1)).map .str := by
    have := cutL_to (L.map MV.str) (v + 1)
    rw [← List.map_take] at this
    exact this
  have e5 := fun s11 => compO_data (vs := [14]) (fi := itAny (slV (peekE 12) noP (prtP (bin2 addM (peekE 4) (cE (.int 1)))))) (t := nameT 14) (f := slV (peekE 14) (prtP (cE (.int 3))) noP) (σ := [.val (.ref r), .val (ct cs), .val (cq ps), .val (.int w), .val (.int v), .val (cq ps), .val (.str (picP (fQ ps) w v)), .val (.lst ((rowsP (fQ ps) w v).map .str)), s8, s9, s10, s11, .val (.lst (L.map .str)), .un, .un]) (h := h3) (xs := L.take (v + 1)) MV.str (fun p => .str (p.drop 3)) (by
      simp [c5, -List.map_take]) (by rw [List.length_take]; omega) (by
      intro p hp
      refine ⟨_, rfl, ?_⟩
      have := slM_str (some 3) none h3 p (sL p (List.mem_of_mem_take hp))
      have c3 := cutL_from p 3
      have c3 : cutL p (some 3) none = p.drop 3 := c3
      simp [wipeM, this, c3])
  have e5' : ((L.take (v + 1)).map fun p => MV.str (p.drop 3)) = (rowsP (fQ ps) w v).map .str := by
    rw [← rm, List.map_map]
    rfl
  rw [e5'] at e5
  have r5 : rng1M [.int 5] = some (([0, 1, 2, 3, 4] : List Nat).map fun i : Nat => .int i) := rfl
  have sel3 : ∀ a b c : MV, sel [2, 1, 0] [a, b, c] = [c, b, a] := fun _ _ _ => rfl
  unfold F__law_right b__law_right
  rw [bodyF_at]
  simp [td, ew, ev, cp, pc, rp, sel3, ex1, sp]
  rw [r5]
  simp only [optR_some, bindFl_ok]
  unfold bRt at e3
  rw [e3]
  unfold ct at td2
  generalize (cs.map far3).map trv = fl at e4 td2
  simp [e4, td2, rp2, sp2, e5, er, ex2]
end K84
end P_Q23
section P_Q24
set_option Elab.async false
set_option linter.all false
set_option maxRecDepth 100000
set_option maxHeartbeats 4000000
set_option exponentiation.threshold 10000
namespace K84
open PySem PySem.Spec PyProof.Rows L2 Mi TL

def nk : List Pt := [(0, 0), (4, 0), (4, 2), (2, 2), (2, 4), (0, 4)]
def nk2 : List Pt := [(4, 0), (4, 2), (2, 2), (2, 4), (0, 4), (0, 0)]
theorem Bp_dec {p : Pt} (h : p.1.num.natAbs < 1024 ∧ p.1.den < 1024 ∧ p.2.num.natAbs < 1024 ∧ p.2.den < 1024) : Bp 30 p := by
  obtain ⟨h1, h2, h3, h4⟩ := h
  refine ⟨⟨?_, ?_⟩, ?_, ?_⟩ <;> unfold Sz <;> omega
theorem nk_room : RoomQ nk := by
  refine ⟨by decide, by decide, ?_, by decide +kernel, ?_, ?_, by decide +kernel⟩
  · intro p hp
    refine Bp_dec ?_
    revert p
    show ∀ p ∈ nk, _
    decide +kernel
  · show ∀ i, i < 6 → _
    decide +kernel
  · have key : ∀ j, j < 6 → ∀ i, i < 6 → i + 2 ≤ j → ¬ (i = 0 ∧ j = 5) → meetQ (nth nk i) (nth nk ((i + 1) % 6)) (nth nk j) (nth nk ((j + 1) % 6)) = false := by decide +kernel
    intro i j h1 h2 h3
    have h2 : j < 6 := h2
    exact key j h2 i (by omega) h1 h3
theorem nk2_room : RoomQ nk2 := by
  refine ⟨by decide, by decide, ?_, by decide +kernel, ?_, ?_, by decide +kernel⟩
  · intro p hp
    refine Bp_dec ?_
    revert p
    show ∀ p ∈ nk2, _
    decide +kernel
  · show ∀ i, i < 6 → _
    decide +kernel
  · have key : ∀ j, j < 6 → ∀ i, i < 6 → i + 2 ≤ j → ¬ (i = 0 ∧ j = 5) → meetQ (nth nk2 i) (nth nk2 ((i + 1) % 6)) (nth nk2 j) (nth nk2 ((j + 1) % 6)) = false := by decide +kernel
    intro i j h1 h2 h3
    have h2 : j < 6 := h2
    exact key j h2 i (by omega) h1 h3
theorem nook_ok {h : MH} : F__law_nook [] h = .ok (cq nk) h := by
  unfold F__law_nook b__law_nook
  rw [bodyF_at]
  have e := compO_data (vs := [0, 1]) (fi := itAny (wrapL (lstO (consA (tupE (consA (cE (.int 0)) (consA (cE (.int 0)) nilA))) (consA (tupE (consA (cE (.int 4)) (consA (cE (.int 0)) nilA))) (consA (tupE (consA (cE (.int 4)) (consA (cE (.int 2)) nilA))) (consA (tupE (consA (cE (.int 2)) (consA (cE (.int 2)) nilA))) (consA (tupE (consA (cE (.int 2)) (consA (cE (.int 4)) nilA))) (consA (tupE (consA (cE (.int 0)) (consA (cE (.int 4)) nilA))) nilA))))))))) (t := tupT 2 (consT (nameT 0) (consT (nameT 1) nilT))) (f := tupE (consA (tupE (consA (varE 0) (consA (cE (.int 1)) nilA))) (consA (tupE (consA (varE 1) (consA (cE (.int 1)) nilA))) nilA))) (σ := [.un, .un]) (h := h) (xs := [((0 : Int), (0 : Int)), (4, 0), (4, 2), (2, 2), (2, 4), (0, 4)]) (fun w => .tup [.int w.1, .int w.2]) (fun w => .tup [.tup [.int w.1, .int 1], .tup [.int w.2, .int 1]]) (by simp) (by simp) (by
    intro w hw
    refine ⟨_, rfl, ?_⟩
    simp [wipeM])
  simp only [retS_at, wrapL_at]
  rw [show (List.map SV.val [] ++ List.replicate (2 - 0) SV.un) = [SV.un, SV.un] from rfl]
  rw [e]
  rfl
theorem pic1 : rowsP (fQ nk) 5 4 = [[43, 45, 43, 46, 46, 46], [45, 35, 45, 46, 46, 46], [45, 35, 43, 45, 43, 46], [45, 35, 35, 35, 45, 46], [43, 45, 45, 45, 43, 46]] := by decide +kernel
theorem pic2 : picP (fQ nk) 0 0 = [43] := by decide +kernel
theorem pic3 : picP (fQ nk) 7 0 = [43, 45, 45, 45, 43, 46, 46, 46] := by decide +kernel
theorem pic4 : picP (fQ nk2) 0 2 = [45, 10, 45, 10, 43] := by decide +kernel
def bLi : SM := ifS (notT (tstE (callE (callN 2 F__law_right) [] (consA (varE 1) (consA (callE (callN 2 F__law_room) [] (consA (varE 1) (consA (cE (.int 9)) nilA))) nilA))))) (retS (cE (.bl false))) nextS
def bLo : SM := forS (nameT 2) (itB rng1M (consA (cE (.int 3)) nilA)) bLi
theorem plain (ns : List Int) (l : ns.length ≤ 63) : ∃ h', F_law [.scr (ns.map .int)] hm0 = .ok (.bl true) h' := by
  have z : zl = 16777216 := rfl
  obtain ⟨h0, N, e0, H0, hN⟩ := purses_ok (ns := ns)
  have r3 : rng1M [.int 3] = some (([0, 1, 2] : List Nat).map fun i : Nat => .int i) := rfl
  have inner : ∀ (r B : Nat) (h : MH) (s2 : SV), r < N → B < 300000 → HOk h N B → ∃ h' s2', bLo [.val (.scr (ns.map .int)), .val (.ref r), s2, .un, .un] h = .nx [.val (.scr (ns.map .int)), .val (.ref r), s2', .un, .un] h' ∧ HOk h' N (B + 336) := by
    intro r B h s2 hr hB H
    obtain ⟨σ', h', e, s2', rfl, _, H'⟩ := forL_inv (α := Nat) (t := nameT 2) (b := bLi) (fun i : Nat => .int i)
      (fun pre post σ h' => ∃ s2, σ = [.val (.scr (ns.map .int)), .val (.ref r), s2, .un, .un] ∧ pre ++ post = [0, 1, 2] ∧ HOk h' N (B + 112 * pre.length))
      (by
        rintro pre i post σ h1 ⟨s2, rfl, he, H1⟩
        refine ⟨_, rfl, ?_⟩
        have lpre : pre.length < 3 := by
          have := congrArg List.length he
          simp at this
          omega
        obtain ⟨cs, h2, e2, R, H2⟩ := room_drawn H1 hr (by omega)
        obtain ⟨h3, e3, H3⟩ := right_ok H2 hr (by omega) R
        refine ⟨[.val (.scr (ns.map .int)), .val (.ref r), .val (.int i), .un, .un], h3, .inl ?_, _, rfl, by simpa using he, by rw [List.length_append]; exact H3.up (by simp; omega)⟩
        unfold bLi
        simp [e2, e3])
      [0, 1, 2] [] [.val (.scr (ns.map .int)), .val (.ref r), s2, .un, .un] h ⟨_, rfl, rfl, by simpa using H⟩
    refine ⟨h', s2', ?_, by simpa using H'⟩
    unfold bLo
    simp only [forS_at, itB_at, consA_at, cE_at, nilA_at, bindR_ok]
    rw [r3]
    simp only [optR_some, bindFl_ok]
    exact e
  obtain ⟨σ', h', e, s1, s2, rfl, _, H'⟩ := forL_inv (α := Nat) (t := nameT 1) (b := bLo) (fun r : Nat => .ref r)
    (fun pre post σ h' => ∃ s1 s2, σ = [.val (.scr (ns.map .int)), s1, s2, .un, .un] ∧ pre ++ post = List.range N ∧ HOk h' N (0 + 336 * pre.length))
    (by
      rintro pre r post σ h1 ⟨s1, s2, rfl, he, H1⟩
      refine ⟨_, rfl, ?_⟩
      have lpre : pre.length < N := by
        have := congrArg List.length he
        simp at this
        omega
      have hr : r < N := by
        have : r ∈ List.range N := by rw [← he]; simp
        exact List.mem_range.mp this
      obtain ⟨h2, s2', e2, H2⟩ := inner r _ h1 s2 hr (by omega) H1
      exact ⟨_, h2, .inl e2, _, _, rfl, by simpa using he, by rw [List.length_append]; exact H2.up (by simp; omega)⟩)
    (List.range N) [] [.val (.scr (ns.map .int)), .un, .un, .un, .un] h0 ⟨_, _, rfl, rfl, by simpa using H0⟩
  refine ⟨h', ?_⟩
  have p1 := room_picture_ok (w := 5) (v := 4) (h := h') nk_room (by decide) (by decide)
  have p2 := room_picture_ok (w := 0) (v := 0) (h := h') nk_room (by decide) (by decide)
  have p3 := room_picture_ok (w := 7) (v := 0) (h := h') nk_room (by decide) (by decide)
  have p4 := room_picture_ok (w := 0) (v := 2) (h := h') nk2_room (by decide) (by decide)
  have sp := split_pic (f := fQ nk) (w := 5) (v := 4) (h := h') (by decide) (by decide)
  rw [pic1] at sp
  rw [pic2] at p2
  rw [pic3] at p3
  rw [pic4] at p4
  generalize picP (fQ nk) 5 4 = P at p1 sp
  have p1 : F_room_picture [cq nk, .int 5, .int 4] h' = .ok (.str P) h' := p1
  have p2 : F_room_picture [cq nk, .int 0, .int 0] h' = .ok (.str [43]) h' := p2
  have p3 : F_room_picture [cq nk, .int 7, .int 0] h' = .ok (.str [43, 45, 45, 45, 43, 46, 46, 46]) h' := p3
  have p4 : F_room_picture [cq nk2, .int 0, .int 2] h' = .ok (.str [45, 10, 45, 10, 43]) h' := p4
  have sl1 : slM (some 1) none h' (cq nk) = some (.lst ((nk.map pq).tail)) := by
    show some (MV.lst (cutL (nk.map pq) (some 1) none)) = _
    rw [cutL_1]
  have sl2 : slM none (some 1) h' (cq nk) = some (.lst ((nk.map pq).take 1)) := by
    show some (MV.lst (cutL (nk.map pq) none (some 1))) = _
    rw [cutL_to1]
  have ad : addM h' (.lst ((nk.map pq).tail)) (.lst ((nk.map pq).take 1)) = some (cq nk2) := by
    rw [add_Ml _ _ _ (by decide)]
    rfl
  have ex := exact_ok (x := .lst [.lst [.str [43, 45, 43, 46, 46, 46], .str [45, 35, 45, 46, 46, 46], .str [45, 35, 43, 45, 43, 46], .str [45, 35, 35, 35, 45, 46], .str [43, 45, 45, 45, 43, 46]], .str [43], .str [43, 45, 45, 45, 43, 46, 46, 46], .str [45, 10, 45, 10, 43]]) (h := h') (by decide)
  unfold F_law b_law
  rw [bodyF_at]
  unfold bLo bLi at e
  simp only [seqS_at, List.map_cons, List.map_nil, List.cons_append, List.nil_append, forS_at, itAny_at, callE_at, consA_at, varE_at, cE_at, nilA_at, List.getElem?_cons_zero, bindR_ok, List.append_nil, List.length_cons, List.length_nil, Nat.zero_add, Nat.reduceAdd, if_true, e0, items_lst, bindFl_ok]
  rw [show List.replicate (5 - 1) SV.un = [SV.un, SV.un, SV.un, SV.un] from rfl]
  rw [e]
  simp [nook_ok, p1, p2, p3, sp, sl1, sl2, ad, p4, ex, -List.map_tail, -List.map_take]
end K84
end P_Q24
section P_E84
set_option Elab.async false
set_option linter.all false
set_option maxRecDepth 100000
set_option maxHeartbeats 0
open PySem PySem.W PySem.Calls PyProof.Rows
theorem PySem.Challenge.cw_seenfromwithin_k84_whole_rooms_pictured_holds : PySem.Challenge.rw_seenfromwithin_k84_whole_rooms_pictured.Holds := by
  w_on; o_law
  refine HeadRun.head_imp (r := OpenLaw.row PySem.Challenge.rw_seenfromwithin_k84_whole_rooms_pictured) (q := view (OpenLaw.row PySem.Challenge.rw_seenfromwithin_k84_whole_rooms_pictured).prog [0, 86]) (H := K84.hk) (ob := K84.ob) (M := 4000) (loose := K84.loose) (d := HeadRun.topDef (OpenLaw.row PySem.Challenge.rw_seenfromwithin_k84_whole_rooms_pictured).prog 86) (kwd := []) K84.ob_eq K84.run
    (by kernel_rfl) (by kernel_rfl) (by kernel_rfl) (by rfl) (by first | assumption | decide +kernel) (by decide +kernel) ⟨rfl, rfl, rfl, rfl, rfl, by decide +kernel⟩ ?hw ?hc
  case hw => w_witness2
  case hc =>
    exact Mi.walk_mini (l := PySem.Challenge.rw_seenfromwithin_k84_whole_rooms_pictured) (n := 63) (k := 15) (i := 71) (gi := 67) (x := "script") (y := "law") (dd := K84.d_law) rfl (by decide) (by kernel_rfl) ⟨rfl, by decide, by decide⟩ (by kernel_rfl) rfl rfl rfl rfl rfl (fun _ _ _ _ _ _ us hl => match us, hl with | [_], _ => rfl)
      (fun w K mg base M => K84.fb_law M) K84.plain
end P_E84
