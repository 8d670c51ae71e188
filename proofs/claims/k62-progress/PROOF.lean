import PyProof.Rows.All
import Wide.All
import OpenK.AllK
import Wide.FinOn
import KE.KStateDown
import HandS.ForMost
import HandS.Defaults
import HandS.Exc
import HandS.Wide
import HandS.WideBits
import HandS.Conv
import HandS.SetKeys
import HandS.SortKw
import HandS.RevRange
import HandS.IsInst
import HandS.Walk
import HandS.Style
import HandS.Flow
import HandS.Evl
import HandS.Steps
import HandS.StrMore
import KE.GoesNew
import KE.KDictZip
import KE.KDictWalk
import KE.GoesDict
import HandS.Head0
import HandS.Head1
import HandS.Head2
import HandS.HeadEnd
import HandS.HeadHook1
import HandS.HeadHook2
import PySem.Challenge.RW_packetpicture_k62_whole_answers_make_pro
set_option Elab.async false
set_option linter.all false
set_option maxRecDepth 100000
set_option maxHeartbeats 4000000
namespace PP
open PySem PySem.Spec PyProof.Rows L2
def top (i : Nat) : Stmt := PySem.Challenge.pw_packetpicture_k62_whole_answers_make_pro.main.body.getD i (.Pass ⟨0, 0, 0, 0⟩)
abbrev s_check_width : Stmt := top 13
abbrev s_check_bits : Stmt := top 14
abbrev s_check_code : Stmt := top 15
abbrev s_context : Stmt := top 16
abbrev s_shares : Stmt := top 17
abbrev s_interval : Stmt := top 18
abbrev s_check_count : Stmt := top 20
abbrev s_digits_value : Stmt := top 21
abbrev s_digits_text : Stmt := top 22
abbrev s_code : Stmt := top 23
abbrev s_encode : Stmt := top 24
abbrev s_opens : Stmt := top 25
abbrev s_last_with_zero : Stmt := top 26
abbrev s_first_with_one : Stmt := top 27
abbrev s_next_bit : Stmt := top 28
abbrev s_find_prefix : Stmt := top 29
abbrev s_known_prefix : Stmt := top 30
abbrev s_known : Stmt := top 31
abbrev s_check_shape : Stmt := top 37
abbrev s_check_size : Stmt := top 38
abbrev s_Frame_init : Stmt := inClass (top 39) 0
abbrev s_Frame_across : Stmt := inClass (top 39) 1
abbrev s_Frame_down : Stmt := inClass (top 39) 2
abbrev s_Frame_tiles : Stmt := inClass (top 39) 3
abbrev s_Frame_pixels : Stmt := inClass (top 39) 4
abbrev s_tile_corner : Stmt := top 40
abbrev s_tile_size : Stmt := top 41
abbrev s_tile_pixels : Stmt := top 42
abbrev s_all_keys : Stmt := top 43
abbrev s_check_key : Stmt := top 44
abbrev s_Arrived_init : Stmt := inClass (top 48) 0
abbrev s_Arrived_digits : Stmt := inClass (top 48) 1
abbrev s_Arrived_accept : Stmt := inClass (top 48) 2
abbrev s_Arrived_digit_count : Stmt := inClass (top 48) 4
abbrev s_known_text : Stmt := top 49
abbrev s_are_values : Stmt := top 51
abbrev s_Picture_init : Stmt := inClass (top 52) 0
abbrev s_Picture_value : Stmt := inClass (top 52) 1
abbrev s_Picture_rows : Stmt := inClass (top 52) 3
abbrev s_fits_frame : Stmt := top 53
abbrev s_gray_bit : Stmt := top 55
abbrev s_stored_bit : Stmt := top 56
abbrev s_packet_bits : Stmt := top 57
abbrev s_packet_code : Stmt := top 59
abbrev s_is_rectangle : Stmt := top 63
abbrev s_check_regions : Stmt := top 64
abbrev s_touches : Stmt := top 65
abbrev s_boost : Stmt := top 66
abbrev s_plan : Stmt := top 67
abbrev s_is_open : Stmt := top 70
abbrev s_request : Stmt := top 71
abbrev s_check_requests : Stmt := top 72
abbrev s_check_asked : Stmt := top 73
abbrev s_answer : Stmt := top 74
abbrev s_missing : Stmt := top 75
abbrev s_stored_texts : Stmt := top 77
abbrev s_both : Stmt := top 78
abbrev s_gray_rows : Stmt := top 79
abbrev s_filled : Stmt := top 80
abbrev s_middle : Stmt := top 81
abbrev s_all_grays : Stmt := top 82
abbrev s_viewed : Stmt := top 83
abbrev s_view : Stmt := top 84
abbrev s_law_cell : Stmt := top 86
abbrev s_law_mixed : Stmt := top 87
abbrev s_law_numbers : Stmt := top 88
abbrev s_law_tiny : Stmt := top 89
abbrev s_law_values : Stmt := top 90
abbrev s_law_tiles : Stmt := top 91
abbrev s_law_order : Stmt := top 92
abbrev s_law_regions : Stmt := top 93
abbrev s_law_picture : Stmt := top 94
abbrev s_law_frame : Stmt := top 95
abbrev s_law_cut : Stmt := top 96
abbrev s_law_is_int : Stmt := top 97
abbrev s_law : Stmt := top 98
def d_check_width : He.DefD := ⟨("check_width", none), "check_width", "check_width", defArgs s_check_width, defBody s_check_width, defScope s_check_width, [], []⟩
def d_check_bits : He.DefD := ⟨("check_bits", none), "check_bits", "check_bits", defArgs s_check_bits, defBody s_check_bits, defScope s_check_bits, [], []⟩
def d_check_code : He.DefD := ⟨("check_code", none), "check_code", "check_code", defArgs s_check_code, defBody s_check_code, defScope s_check_code, [], []⟩
def d_context : He.DefD := ⟨("context", none), "context", "context", defArgs s_context, defBody s_context, defScope s_context, [], []⟩
def d_shares : He.DefD := ⟨("shares", none), "shares", "shares", defArgs s_shares, defBody s_shares, defScope s_shares, [], []⟩
def d_interval : He.DefD := ⟨("interval", none), "interval", "interval", defArgs s_interval, defBody s_interval, defScope s_interval, [], []⟩
def d_check_count : He.DefD := ⟨("check_count", none), "check_count", "check_count", defArgs s_check_count, defBody s_check_count, defScope s_check_count, [], []⟩
def d_digits_value : He.DefD := ⟨("digits_value", none), "digits_value", "digits_value", defArgs s_digits_value, defBody s_digits_value, defScope s_digits_value, [], []⟩
def d_digits_text : He.DefD := ⟨("digits_text", none), "digits_text", "digits_text", defArgs s_digits_text, defBody s_digits_text, defScope s_digits_text, [], []⟩
def d_code : He.DefD := ⟨("_code", none), "_code", "_code", defArgs s_code, defBody s_code, defScope s_code, [], []⟩
def d_encode : He.DefD := ⟨("encode", none), "encode", "encode", defArgs s_encode, defBody s_encode, defScope s_encode, [], []⟩
def d_opens : He.DefD := ⟨("opens", none), "opens", "opens", defArgs s_opens, defBody s_opens, defScope s_opens, [], []⟩
def d_last_with_zero : He.DefD := ⟨("last_with_zero", none), "last_with_zero", "last_with_zero", defArgs s_last_with_zero, defBody s_last_with_zero, defScope s_last_with_zero, [], []⟩
def d_first_with_one : He.DefD := ⟨("first_with_one", none), "first_with_one", "first_with_one", defArgs s_first_with_one, defBody s_first_with_one, defScope s_first_with_one, [], []⟩
def d_next_bit : He.DefD := ⟨("_next_bit", none), "_next_bit", "_next_bit", defArgs s_next_bit, defBody s_next_bit, defScope s_next_bit, [], []⟩
def d_find_prefix : He.DefD := ⟨("find_prefix", none), "find_prefix", "find_prefix", defArgs s_find_prefix, defBody s_find_prefix, defScope s_find_prefix, [], []⟩
def d_known_prefix : He.DefD := ⟨("known_prefix", none), "known_prefix", "known_prefix", defArgs s_known_prefix, defBody s_known_prefix, defScope s_known_prefix, [], []⟩
def d_known : He.DefD := ⟨("known", none), "known", "known", defArgs s_known, defBody s_known, defScope s_known, [], []⟩
def d_check_shape : He.DefD := ⟨("check_shape", none), "check_shape", "check_shape", defArgs s_check_shape, defBody s_check_shape, defScope s_check_shape, [], []⟩
def d_check_size : He.DefD := ⟨("check_size", none), "check_size", "check_size", defArgs s_check_size, defBody s_check_size, defScope s_check_size, [], []⟩
def d_Frame_init : He.DefD := ⟨("Frame", some "__init__"), "__init__", "Frame.__init__", defArgs s_Frame_init, defBody s_Frame_init, defScope s_Frame_init, [], []⟩
def d_Frame_across : He.DefD := ⟨("Frame", some "across"), "across", "Frame.across", defArgs s_Frame_across, defBody s_Frame_across, defScope s_Frame_across, [], []⟩
def d_Frame_down : He.DefD := ⟨("Frame", some "down"), "down", "Frame.down", defArgs s_Frame_down, defBody s_Frame_down, defScope s_Frame_down, [], []⟩
def d_Frame_tiles : He.DefD := ⟨("Frame", some "tiles"), "tiles", "Frame.tiles", defArgs s_Frame_tiles, defBody s_Frame_tiles, defScope s_Frame_tiles, [], []⟩
def d_Frame_pixels : He.DefD := ⟨("Frame", some "pixels"), "pixels", "Frame.pixels", defArgs s_Frame_pixels, defBody s_Frame_pixels, defScope s_Frame_pixels, [], []⟩
def d_tile_corner : He.DefD := ⟨("tile_corner", none), "tile_corner", "tile_corner", defArgs s_tile_corner, defBody s_tile_corner, defScope s_tile_corner, [], []⟩
def d_tile_size : He.DefD := ⟨("tile_size", none), "tile_size", "tile_size", defArgs s_tile_size, defBody s_tile_size, defScope s_tile_size, [], []⟩
def d_tile_pixels : He.DefD := ⟨("tile_pixels", none), "tile_pixels", "tile_pixels", defArgs s_tile_pixels, defBody s_tile_pixels, defScope s_tile_pixels, [], []⟩
def d_all_keys : He.DefD := ⟨("all_keys", none), "all_keys", "all_keys", defArgs s_all_keys, defBody s_all_keys, defScope s_all_keys, [], []⟩
def d_check_key : He.DefD := ⟨("check_key", none), "check_key", "check_key", defArgs s_check_key, defBody s_check_key, defScope s_check_key, [], []⟩
def d_Arrived_init : He.DefD := ⟨("Arrived", some "__init__"), "__init__", "Arrived.__init__", defArgs s_Arrived_init, defBody s_Arrived_init, defScope s_Arrived_init, [], []⟩
def d_Arrived_digits : He.DefD := ⟨("Arrived", some "digits"), "digits", "Arrived.digits", defArgs s_Arrived_digits, defBody s_Arrived_digits, defScope s_Arrived_digits, [], []⟩
def d_Arrived_accept : He.DefD := ⟨("Arrived", some "accept"), "accept", "Arrived.accept", defArgs s_Arrived_accept, defBody s_Arrived_accept, defScope s_Arrived_accept, [], []⟩
def d_Arrived_digit_count : He.DefD := ⟨("Arrived", some "digit_count"), "digit_count", "Arrived.digit_count", defArgs s_Arrived_digit_count, defBody s_Arrived_digit_count, defScope s_Arrived_digit_count, [], []⟩
def d_known_text : He.DefD := ⟨("known_text", none), "known_text", "known_text", defArgs s_known_text, defBody s_known_text, defScope s_known_text, [], []⟩
def d_are_values : He.DefD := ⟨("_are_values", none), "_are_values", "_are_values", defArgs s_are_values, defBody s_are_values, defScope s_are_values, [], []⟩
def d_Picture_init : He.DefD := ⟨("Picture", some "__init__"), "__init__", "Picture.__init__", defArgs s_Picture_init, defBody s_Picture_init, defScope s_Picture_init, [], []⟩
def d_Picture_value : He.DefD := ⟨("Picture", some "value"), "value", "Picture.value", defArgs s_Picture_value, defBody s_Picture_value, defScope s_Picture_value, [], []⟩
def d_Picture_rows : He.DefD := ⟨("Picture", some "rows"), "rows", "Picture.rows", defArgs s_Picture_rows, defBody s_Picture_rows, defScope s_Picture_rows, [], []⟩
def d_fits_frame : He.DefD := ⟨("fits_frame", none), "fits_frame", "fits_frame", defArgs s_fits_frame, defBody s_fits_frame, defScope s_fits_frame, [], []⟩
def d_gray_bit : He.DefD := ⟨("gray_bit", none), "gray_bit", "gray_bit", defArgs s_gray_bit, defBody s_gray_bit, defScope s_gray_bit, [], []⟩
def d_stored_bit : He.DefD := ⟨("stored_bit", none), "stored_bit", "stored_bit", defArgs s_stored_bit, defBody s_stored_bit, defScope s_stored_bit, [], []⟩
def d_packet_bits : He.DefD := ⟨("packet_bits", none), "packet_bits", "packet_bits", defArgs s_packet_bits, defBody s_packet_bits, defScope s_packet_bits, [], []⟩
def d_packet_code : He.DefD := ⟨("packet_code", none), "packet_code", "packet_code", defArgs s_packet_code, defBody s_packet_code, defScope s_packet_code, [], []⟩
def d_is_rectangle : He.DefD := ⟨("_is_rectangle", none), "_is_rectangle", "_is_rectangle", defArgs s_is_rectangle, defBody s_is_rectangle, defScope s_is_rectangle, [], []⟩
def d_check_regions : He.DefD := ⟨("check_regions", none), "check_regions", "check_regions", defArgs s_check_regions, defBody s_check_regions, defScope s_check_regions, [], []⟩
def d_touches : He.DefD := ⟨("touches", none), "touches", "touches", defArgs s_touches, defBody s_touches, defScope s_touches, [], []⟩
def d_boost : He.DefD := ⟨("boost", none), "boost", "boost", defArgs s_boost, defBody s_boost, defScope s_boost, [], []⟩
def d_plan : He.DefD := ⟨("plan", none), "plan", "plan", defArgs s_plan, defBody s_plan, defScope s_plan, [], []⟩
def d_is_open : He.DefD := ⟨("is_open", none), "is_open", "is_open", defArgs s_is_open, defBody s_is_open, defScope s_is_open, [], []⟩
def d_request : He.DefD := ⟨("request", none), "request", "request", defArgs s_request, defBody s_request, defScope s_request, [], []⟩
def d_check_requests : He.DefD := ⟨("check_requests", none), "check_requests", "check_requests", defArgs s_check_requests, defBody s_check_requests, defScope s_check_requests, [], []⟩
def d_check_asked : He.DefD := ⟨("check_asked", none), "check_asked", "check_asked", defArgs s_check_asked, defBody s_check_asked, defScope s_check_asked, [], []⟩
def d_answer : He.DefD := ⟨("answer", none), "answer", "answer", defArgs s_answer, defBody s_answer, defScope s_answer, [], []⟩
def d_missing : He.DefD := ⟨("missing", none), "missing", "missing", defArgs s_missing, defBody s_missing, defScope s_missing, [], []⟩
def d_stored_texts : He.DefD := ⟨("_stored_texts", none), "_stored_texts", "_stored_texts", defArgs s_stored_texts, defBody s_stored_texts, defScope s_stored_texts, [], []⟩
def d_both : He.DefD := ⟨("_both", none), "_both", "_both", defArgs s_both, defBody s_both, defScope s_both, [], []⟩
def d_gray_rows : He.DefD := ⟨("_gray_rows", none), "_gray_rows", "_gray_rows", defArgs s_gray_rows, defBody s_gray_rows, defScope s_gray_rows, [], []⟩
def d_filled : He.DefD := ⟨("_filled", none), "_filled", "_filled", defArgs s_filled, defBody s_filled, defScope s_filled, [], []⟩
def d_middle : He.DefD := ⟨("_middle", none), "_middle", "_middle", defArgs s_middle, defBody s_middle, defScope s_middle, [], []⟩
def d_all_grays : He.DefD := ⟨("_all_grays", none), "_all_grays", "_all_grays", defArgs s_all_grays, defBody s_all_grays, defScope s_all_grays, [], []⟩
def d_viewed : He.DefD := ⟨("_viewed", none), "_viewed", "_viewed", defArgs s_viewed, defBody s_viewed, defScope s_viewed, [], []⟩
def d_view : He.DefD := ⟨("view", none), "view", "view", defArgs s_view, defBody s_view, defScope s_view, [], []⟩
def d_law_cell : He.DefD := ⟨("_law_cell", none), "_law_cell", "_law_cell", defArgs s_law_cell, defBody s_law_cell, defScope s_law_cell, [], []⟩
def d_law_mixed : He.DefD := ⟨("_law_mixed", none), "_law_mixed", "_law_mixed", defArgs s_law_mixed, defBody s_law_mixed, defScope s_law_mixed, [], []⟩
def d_law_numbers : He.DefD := ⟨("_law_numbers", none), "_law_numbers", "_law_numbers", defArgs s_law_numbers, defBody s_law_numbers, defScope s_law_numbers, [], []⟩
def d_law_tiny : He.DefD := ⟨("_law_tiny", none), "_law_tiny", "_law_tiny", defArgs s_law_tiny, defBody s_law_tiny, defScope s_law_tiny, [], []⟩
def d_law_values : He.DefD := ⟨("_law_values", none), "_law_values", "_law_values", defArgs s_law_values, defBody s_law_values, defScope s_law_values, [], []⟩
def d_law_tiles : He.DefD := ⟨("_law_tiles", none), "_law_tiles", "_law_tiles", defArgs s_law_tiles, defBody s_law_tiles, defScope s_law_tiles, [], []⟩
def d_law_order : He.DefD := ⟨("_law_order", none), "_law_order", "_law_order", defArgs s_law_order, defBody s_law_order, defScope s_law_order, [], []⟩
def d_law_regions : He.DefD := ⟨("_law_regions", none), "_law_regions", "_law_regions", defArgs s_law_regions, defBody s_law_regions, defScope s_law_regions, [], []⟩
def d_law_picture : He.DefD := ⟨("_law_picture", none), "_law_picture", "_law_picture", defArgs s_law_picture, defBody s_law_picture, defScope s_law_picture, [], []⟩
def d_law_frame : He.DefD := ⟨("_law_frame", none), "_law_frame", "_law_frame", defArgs s_law_frame, defBody s_law_frame, defScope s_law_frame, [], []⟩
def d_law_cut : He.DefD := ⟨("_law_cut", none), "_law_cut", "_law_cut", defArgs s_law_cut, defBody s_law_cut, defScope s_law_cut, [], []⟩
def d_law_is_int : He.DefD := ⟨("_law_is_int", none), "_law_is_int", "_law_is_int", defArgs s_law_is_int, defBody s_law_is_int, defScope s_law_is_int, [], []⟩
def d_law : He.DefD := ⟨("law", none), "law", "law", defArgs s_law, defBody s_law, defScope s_law, [], []⟩
/-! ### the head: what the module's dict holds, read off in one pass -/
inductive S1 where
  | skip
  | int (i : Int)
  | fn (d : He.DefD)
  | cls (ms : List He.DefD) (fs : List Str)
def fobs (o : Option Obj) : He.FnW := match o with
  | some ⟨_, _, .func fd, _⟩ => some (fd.name, fd.qualname, fd.params, fd.body, fd.scope, fd.globals, fd.closure, fd.builtins)
  | _ => none
def fchk (K : PySem.W.Frag) (a : Addr) (q : Str) : Bool := PySem.W.keepIn K (.ref a) && (match K.lookup a with
  | some ⟨_, _, .func fd, _⟩ => PySem.W.codeIn K fd.code q && (He.dflB K fd.defaults [] && He.kwdB K fd.kwdefaults [])
  | _ => false)
def mAt (K : PySem.W.Frag) (C : Addr) (m : Str) : Addr := match PySem.W.findIn K (.ref C) m with
  | some (some (.ref a)) => a
  | _ => 0
def mchk (K : PySem.W.Frag) (C : Addr) (d : He.DefD) : Bool := He.eqO (PySem.W.findIn K (.ref C) d.name) (some (some (.ref (mAt K C d.name)))) && (PySem.W.isFn K (.ref (mAt K C d.name)) && fchk K (mAt K C d.name) d.qual)
def cchk (K : PySem.W.Frag) (C : Addr) : Bool := (PySem.W.plainGet K C Str.empty && (PySem.W.hasDictIn K C && (PySem.W.plainOver K C && He.eqO (PySem.W.findIn K (.ref C) "__setattr__") (some (some (.builtin "object.__setattr__")))))) && (PySem.W.makesIn K C && PySem.W.keepIn K (.ref C))
def c1 (K : PySem.W.Frag) (v : Value) : S1 → Bool
  | .skip => true
  | .int i => (match v with | .int j _ => decide (j = i) | _ => false)
  | .fn d => (match v with | .ref a => fchk K a d.qual | _ => false)
  | .cls ms fs => (match v with | .ref C => cchk K C && ((fs.all fun f => He.eqO (PySem.W.findIn K (.ref C) f) (some none)) && ms.all (mchk K C)) | _ => false)
def w1 (K : PySem.W.Frag) (v : Value) : S1 → List He.FnW
  | .fn _ => (match v with | .ref a => [fobs (K.lookup a)] | _ => [])
  | .cls ms _ => (match v with | .ref C => ms.map fun d => fobs (K.lookup (mAt K C d.name)) | _ => [])
  | _ => []
def e1 : S1 → List He.FnW
  | .fn d => [d.val]
  | .cls ms _ => ms.map He.DefD.val
  | _ => []
def passB (K : PySem.W.Frag) : List DictEntry → List (Str × S1) → Bool
  | e :: es, (x, s) :: ss => e.key.isStr x && (c1 K e.val s && passB K es ss)
  | [], [] => true
  | _, _ => false
def passW (K : PySem.W.Frag) : List DictEntry → List (Str × S1) → List (List He.FnW)
  | e :: es, (_, s) :: ss => w1 K e.val s :: passW K es ss
  | _, _ => []
abbrev Al1 : Type := Bool × List (List He.FnW)
def isHead (x0 : Str) (e : DictEntry) : Bool := !e.key.isStr x0
def obs1 (x0 : Str) (sp : List (Str × S1)) (fre : List Str) (K : PySem.W.Frag) : Al1 := match K.lookup mainGlobals with
  | some ⟨_, _, .dict es _, _⟩ => ((!(es.toList.any (·.refKey))) && (((es.toList.takeWhile (isHead x0)).all fun e => (fre.all fun x => !e.key.isStr x) && sp.all fun p => !e.key.isStr p.1) && passB K (es.toList.dropWhile (isHead x0)) sp),
      passW K (es.toList.dropWhile (isHead x0)) sp)
  | _ => (false, [])
def val1 (sp : List (Str × S1)) : Al1 := (true, sp.map fun p => e1 p.2)
/-- the objects that are looked at -/
def refF (g : Addr → Option Obj) (a : Addr) : List Addr := match g a with
  | some ⟨_, _, .func fd, _⟩ => He.refV fd.code
  | _ => []
def refC (g : Addr → Option Obj) (a : Addr) : List Addr := match g a with
  | some ⟨_, _, .func fd, _⟩ => He.refV fd.code
  | some ⟨_, _, .cls cd, _⟩ => cd.ns :: (match g cd.ns with
    | some ⟨_, _, .dict es _, _⟩ => es.toList.flatMap fun e => (match e.val with
      | .ref b => b :: refF g b
      | _ => [])
    | _ => [])
  | _ => []
def coll (g : Addr → Option Obj) : List Addr := mainGlobals :: (match g mainGlobals with
  | some ⟨_, _, .dict es _, _⟩ => es.toList.flatMap fun e => (match e.val with
    | .ref a => a :: refC g a
    | _ => [])
  | _ => [])
def frK {α : Type} : PySem.W.Frag → (PySem.W.Frag → α) → α
  | [], k => k []
  | (a, o) :: r, k => HandSHeadRun.frNat a fun a => (match o with | ⟨c, d, dt, sl⟩ => frK r fun r => k ((a, ⟨c, d, dt, sl⟩) :: r))
theorem frK_eq {α : Type} : ∀ (K : PySem.W.Frag) (k : PySem.W.Frag → α), frK K k = k K
  | [], _ => rfl
  | (a, ⟨c, d, dt, sl⟩) :: r, k => by
    show HandSHeadRun.frNat a (fun a => frK r fun r => k ((a, ⟨c, d, dt, sl⟩) :: r)) = _
    rw [HandSHeadRun.frNat_eq, frK_eq r]
def obsG1 (x0 : Str) (sp : List (Str × S1)) (fre : List Str) (g : Addr → Option Obj) : Al1 := frK (He.frG g (coll g)) (obs1 x0 sp fre)
def hook1 (x0 : Str) (sp : List (Str × S1)) (fre : List Str) : PySem.W.Hook where
  α := Al1
  obs := fun s => obsG1 x0 sp fre s.heap.get?
  val := fun _ => val1 sp
  says := fun _ h => ∃ K : PySem.W.Frag, K.In h ∧ obs1 x0 sp fre K = val1 sp
  of := fun w s e => ⟨_, He.frG_in, by
    have e2 : obsG1 x0 sp fre s.heap.get? = val1 sp := e
    unfold obsG1 at e2
    rw [frK_eq] at e2
    exact e2⟩
  keeps := fun _ _ _ ⟨K, hK, c⟩ k => ⟨K, PySem.W.Frag.In.keeps hK k, c⟩
theorem obsG1_eq {x0 : Str} {sp : List (Str × S1)} {fre : List Str} {g : Addr → Option Obj} {s : Shared} (h : ∀ a, g a = s.heap.get? a) : obsG1 x0 sp fre g = (hook1 x0 sp fre).obs s := by
  have e : g = s.heap.get? := funext h
  rw [e] <;> rfl
def spec0 : List (PySem.Str × S1) := [("_wall", .skip), ("PictureError", .skip), ("OutOfRange", .skip), ("BitsAhead", .skip), ("Contradiction", .skip), ("NoSuchPacket", .skip), ("OtherKind", .skip), ("PacketTwice", .skip), ("BITS_MOST", .int 256), ("WIDTH_MOST", .int 16), ("CODE_MOST", .int 400), ("check_width", .fn d_check_width), ("check_bits", .fn d_check_bits), ("check_code", .fn d_check_code), ("context", .fn d_context), ("shares", .fn d_shares), ("interval", .fn d_interval), ("check_count", .fn d_check_count), ("digits_value", .fn d_digits_value), ("digits_text", .fn d_digits_text)]
def spec1 : List (PySem.Str × S1) := [("_code", .fn d_code), ("encode", .fn d_encode), ("opens", .fn d_opens), ("last_with_zero", .fn d_last_with_zero), ("first_with_one", .fn d_first_with_one), ("_next_bit", .fn d_next_bit), ("find_prefix", .fn d_find_prefix), ("known_prefix", .fn d_known_prefix), ("known", .fn d_known), ("SIDE_MOST", .int 64), ("VALUES_MOST", .int 3072), ("DEPTH_MOST", .int 8), ("TILE_MOST", .int 16), ("check_shape", .fn d_check_shape), ("check_size", .fn d_check_size), ("Frame", .cls [d_Frame_init, d_Frame_across, d_Frame_down, d_Frame_tiles, d_Frame_pixels] ["width", "height", "depth", "channels", "tile"]), ("tile_corner", .fn d_tile_corner), ("tile_size", .fn d_tile_size), ("tile_pixels", .fn d_tile_pixels), ("all_keys", .fn d_all_keys)]
def spec2 : List (PySem.Str × S1) := [("check_key", .fn d_check_key), ("START_MOST", .int 65535), ("DIGITS_MOST", .int 65535), ("Arrived", .cls [d_Arrived_init, d_Arrived_digits, d_Arrived_accept, d_Arrived_digit_count] ["frame", "_texts"]), ("known_text", .fn d_known_text), ("_are_values", .fn d_are_values), ("Picture", .cls [d_Picture_init, d_Picture_value, d_Picture_rows] ["width", "height", "depth", "channels", "_rows"]), ("fits_frame", .fn d_fits_frame), ("gray_bit", .fn d_gray_bit), ("stored_bit", .fn d_stored_bit), ("packet_bits", .fn d_packet_bits), ("packet_code", .fn d_packet_code), ("REGIONS_MOST", .int 16), ("BOOST_MOST", .int 16), ("_is_rectangle", .fn d_is_rectangle), ("check_regions", .fn d_check_regions), ("touches", .fn d_touches), ("boost", .fn d_boost), ("plan", .fn d_plan), ("COUNT_MOST", .int 1000000)]
def spec3 : List (PySem.Str × S1) := [("is_open", .fn d_is_open), ("request", .fn d_request), ("check_requests", .fn d_check_requests), ("check_asked", .fn d_check_asked), ("answer", .fn d_answer), ("missing", .fn d_missing), ("_stored_texts", .fn d_stored_texts), ("_both", .fn d_both), ("_gray_rows", .fn d_gray_rows), ("_filled", .fn d_filled), ("_middle", .fn d_middle), ("_all_grays", .fn d_all_grays), ("_viewed", .fn d_viewed), ("view", .fn d_view), ("_law_cell", .fn d_law_cell), ("_law_mixed", .fn d_law_mixed), ("_law_numbers", .fn d_law_numbers), ("_law_tiny", .fn d_law_tiny), ("_law_values", .fn d_law_values), ("_law_tiles", .fn d_law_tiles)]
def spec4 : List (PySem.Str × S1) := [("_law_order", .fn d_law_order), ("_law_regions", .fn d_law_regions), ("_law_picture", .fn d_law_picture), ("_law_frame", .fn d_law_frame), ("_law_cut", .fn d_law_cut), ("_law_is_int", .fn d_law_is_int), ("law", .fn d_law)]
def spec : List (PySem.Str × S1) := spec0 ++ (spec1 ++ (spec2 ++ (spec3 ++ (spec4))))
def names0 : List PySem.Str := ["_wall", "PictureError", "OutOfRange", "BitsAhead", "Contradiction", "NoSuchPacket", "OtherKind", "PacketTwice", "BITS_MOST", "WIDTH_MOST", "CODE_MOST", "check_width", "check_bits", "check_code", "context", "shares", "interval", "check_count", "digits_value", "digits_text"]
def names1 : List PySem.Str := ["_code", "encode", "opens", "last_with_zero", "first_with_one", "_next_bit", "find_prefix", "known_prefix", "known", "SIDE_MOST", "VALUES_MOST", "DEPTH_MOST", "TILE_MOST", "check_shape", "check_size", "Frame", "tile_corner", "tile_size", "tile_pixels", "all_keys"]
def names2 : List PySem.Str := ["check_key", "START_MOST", "DIGITS_MOST", "Arrived", "known_text", "_are_values", "Picture", "fits_frame", "gray_bit", "stored_bit", "packet_bits", "packet_code", "REGIONS_MOST", "BOOST_MOST", "_is_rectangle", "check_regions", "touches", "boost", "plan", "COUNT_MOST"]
def names3 : List PySem.Str := ["is_open", "request", "check_requests", "check_asked", "answer", "missing", "_stored_texts", "_both", "_gray_rows", "_filled", "_middle", "_all_grays", "_viewed", "view", "_law_cell", "_law_mixed", "_law_numbers", "_law_tiny", "_law_values", "_law_tiles"]
def names4 : List PySem.Str := ["_law_order", "_law_regions", "_law_picture", "_law_frame", "_law_cut", "_law_is_int"]
def names : List PySem.Str := names0 ++ (names1 ++ (names2 ++ (names3 ++ (names4))))
def fre : List PySem.Str := ["len", "range", "min", "max", "abs", "sum", "int", "bool", "isinstance", "enumerate", "reversed", "zip", "sorted", "list", "divmod"]
abbrev R : PySem.W.OpenRow := PySem.W.OpenLaw.row PySem.Challenge.rw_packetpicture_k62_whole_answers_make_pro
abbrev hk : PySem.W.Hook := hook1 "_wall" spec fre
def ob (s : PySem.W.SharedT) : Al1 := obsG1 "_wall" spec fre (HandSHeadRun.getT s)
theorem ob_eq (s : PySem.W.SharedT) : ob s = hk.obs s.abs := obsG1_eq (HandSHeadRun.getT_eq s)
set_option maxHeartbeats 0 in
theorem run (w : World) : HandSHeadRun.RunEq R (PySem.W.view R.prog [98]) hk ob 6000 names w := by
  intro os
  kernel_rfl
/-! ### what follows from that pass -/
theorem isStr_ne {v : Value} {x y : Str} (h : v.isStr x = true) (n : ¬ x = y) : v.isStr y = false := by
  cases v with
  | str z t =>
    have e : (z == x) = true := h
    have e2 : z = x := eq_of_beq e
    show (z == y) = false
    rw [e2]
    exact beq_eq_false_iff_ne.mpr n
  | _ => cases h
theorem pass_find {K : PySem.W.Frag} : ∀ {es : List DictEntry} {ss : List (Str × S1)} {i : Nat} {x : Str} {s : S1}, passB K es ss = true → (ss.map (·.1)).Nodup → ss[i]? = some (x, s) →
    ∃ e, es.find? (·.key.isStr x) = some e ∧ c1 K e.val s = true ∧ (passW K es ss)[i]? = some (w1 K e.val s)
  | [], [], i, x, s, _, _, h => by simp at h
  | [], _ :: _, _, _, _, h, _, _ => by cases h
  | _ :: _, [], _, _, _, h, _, _ => by cases h
  | e :: es, (y, u) :: ss, 0, x, s, h, _, hi => by
    have e0 : (y, u) = (x, s) := Option.some.inj hi
    cases e0
    obtain ⟨h1, h2⟩ := He.ba (show (e.key.isStr y && (c1 K e.val u && passB K es ss)) = true from h)
    obtain ⟨h3, h4⟩ := He.ba h2
    exact ⟨e, by rw [List.find?_cons, h1], h3, rfl⟩
  | e :: es, (y, u) :: ss, i + 1, x, s, h, nd, hi => by
    obtain ⟨h1, h2⟩ := He.ba (show (e.key.isStr y && (c1 K e.val u && passB K es ss)) = true from h)
    obtain ⟨h3, h4⟩ := He.ba h2
    obtain ⟨n1, n2⟩ := List.nodup_cons.mp nd
    have hi2 : ss[i]? = some (x, s) := hi
    have ne : ¬ y = x := fun q => n1 (by rw [q]; exact List.mem_map.mpr ⟨(x, s), List.mem_of_getElem? hi2, rfl⟩)
    obtain ⟨e', g1, g2, g3⟩ := pass_find h4 n2 hi2
    exact ⟨e', by rw [List.find?_cons, isStr_ne h1 ne]; exact g1, g2, g3⟩
theorem pass_none {K : PySem.W.Frag} : ∀ {es : List DictEntry} {ss : List (Str × S1)} {x : Str}, passB K es ss = true → (∀ p ∈ ss, ¬ p.1 = x) → es.find? (·.key.isStr x) = none
  | [], [], x, _, _ => rfl
  | [], _ :: _, _, h, _ => by cases h
  | _ :: _, [], _, h, _ => by cases h
  | e :: es, (y, u) :: ss, x, h, n => by
    obtain ⟨h1, h2⟩ := He.ba (show (e.key.isStr y && (c1 K e.val u && passB K es ss)) = true from h)
    obtain ⟨h3, h4⟩ := He.ba h2
    rw [List.find?_cons, isStr_ne h1 (n (y, u) (List.mem_cons_self ..))]
    exact pass_none h4 fun p hp => n p (List.mem_cons_of_mem _ hp)
theorem find_drop {f q : DictEntry → Bool} : ∀ {es : List DictEntry}, (∀ e ∈ es.takeWhile q, f e = false) → es.find? f = (es.dropWhile q).find? f
  | [], _ => rfl
  | e :: es, h => by
    cases hq : q e with
    | false => rw [List.dropWhile_cons, hq] <;> rfl
    | true =>
      have h' : ∀ u ∈ e :: es.takeWhile q, f u = false := by
        rw [List.takeWhile_cons, hq] at h
        exact h
      rw [List.dropWhile_cons, hq, List.find?_cons, h' e (List.mem_cons_self ..)]
      exact find_drop fun u hu => h' u (List.mem_cons_of_mem _ hu)
/-- the module's dict, taken apart -/
structure Rd1 (x0 : Str) (sp : List (Str × S1)) (fre : List Str) (K : PySem.W.Frag) (es : Array DictEntry) : Prop where
  at_ : ∃ oc od ep sl, K.lookup mainGlobals = some ⟨oc, od, .dict es ep, sl⟩
  rk : es.toList.any (·.refKey) = false
  pf : ∀ e ∈ es.toList.takeWhile (isHead x0), (∀ x ∈ fre, e.key.isStr x = false) ∧ ∀ p ∈ sp, e.key.isStr p.1 = false
  pb : passB K (es.toList.dropWhile (isHead x0)) sp = true
  pw : passW K (es.toList.dropWhile (isHead x0)) sp = sp.map fun p => e1 p.2
theorem not_of {b : Bool} (h : (!b) = true) : b = false := by cases b <;> first | rfl | cases h
theorem rd1_of {x0 : Str} {sp : List (Str × S1)} {fre : List Str} {K : PySem.W.Frag} (h : obs1 x0 sp fre K = val1 sp) : ∃ es, Rd1 x0 sp fre K es := by
  unfold obs1 at h
  split at h
  · rename_i oc od es ep sl hl
    obtain ⟨h1, h2⟩ := Prod.mk.inj h
    obtain ⟨a1, a2⟩ := He.ba h1
    obtain ⟨a3, a4⟩ := He.ba a2
    refine ⟨es, ⟨oc, od, ep, sl, hl⟩, not_of a1, fun e he => ?_, a4, h2⟩
    obtain ⟨b1, b2⟩ := He.ba (List.all_eq_true.mp a3 e he)
    exact ⟨fun x hx => not_of (List.all_eq_true.mp b1 x hx), fun p hp => not_of (List.all_eq_true.mp b2 p hp)⟩
  · obtain ⟨h1, _⟩ := Prod.mk.inj h
    cases h1
section
variable {x0 : Str} {sp : List (Str × S1)} {fre : List Str} {K : PySem.W.Frag} {es : Array DictEntry} {i : Nat} {x : Str} {s : S1}
theorem Rd1.at_name (R : Rd1 x0 sp fre K es) (nd : (sp.map (·.1)).Nodup) (h : sp[i]? = some (x, s)) : ∃ v, PySem.W.nsIn K mainGlobals x = some (some v) ∧ c1 K v s = true ∧ w1 K v s = e1 s := by
  obtain ⟨e, g1, g2, g3⟩ := pass_find R.pb nd h
  have hf : es.toList.find? (·.key.isStr x) = some e := by
    rw [find_drop (q := isHead x0) fun u hu => (R.pf u hu).2 (x, s) (List.mem_of_getElem? h)]
    exact g1
  obtain ⟨oc, od, ep, sl, hl⟩ := R.at_
  refine ⟨e.val, ?_, g2, ?_⟩
  · unfold PySem.W.nsIn
    rw [hl]
    show (match es.toList.find? (·.key.isStr x) with
      | some e => some (some e.val)
      | none => if es.toList.any (·.refKey) then none else some none) = _
    rw [hf]
  · rw [R.pw, List.getElem?_map, h] at g3
    exact (Option.some.inj g3).symm
theorem Rd1.free (R : Rd1 x0 sp fre K es) (h : x ∈ fre) (hn : ∀ p ∈ sp, ¬ p.1 = x) : PySem.W.nsIn K mainGlobals x = some none := by
  have hf : es.toList.find? (·.key.isStr x) = none := by
    rw [find_drop (q := isHead x0) fun u hu => (R.pf u hu).1 x h]
    exact pass_none R.pb hn
  obtain ⟨oc, od, ep, sl, hl⟩ := R.at_
  unfold PySem.W.nsIn
  rw [hl]
  show (match es.toList.find? (·.key.isStr x) with
    | some e => some (some e.val)
    | none => if es.toList.any (·.refKey) then none else some none) = _
  rw [hf, R.rk] <;> rfl
end
/-- a def by what was seen of its object -/
theorem funD_of {K : PySem.W.Frag} {a : Addr} {d : He.DefD} (e : fobs (K.lookup a) = d.val) (c : fchk K a d.qual = true) : ∃ fd, FunD K d.name d.qual d.params d.body d.scope [] [] a fd := by
  obtain ⟨kp, c2⟩ := He.ba c
  cases q : K.lookup a with
  | none =>
    rw [q] at c2
    cases c2
  | some o =>
    obtain ⟨oc, od, dt, osl⟩ := o
    rw [q] at c2 e
    cases dt with
    | func fd =>
      obtain ⟨n1, n2, n3, n4, n5, n6, n7, n8, n9, n10, n11, n12, n13, n14, n15⟩ := fd
      have e2 : (some (n1, n2, n3, n4, n5, n6, n7, n15) : He.FnW) = some (d.name, d.qual, d.params, .stmts d.body, d.scope, mainGlobals, [], builtinsNs) := e
      simp only [Option.some.injEq, Prod.mk.injEq] at e2
      obtain ⟨h1, h2, h3, h4, h5, h6, h7, h8⟩ := e2
      subst h1 h2 h3 h4 h5 h6 h7 h8
      obtain ⟨k1, k2⟩ := He.ba (show (PySem.W.codeIn K n13 d.qual && (He.dflB K n8 [] && He.kwdB K n9 [])) = true from c2)
      obtain ⟨k3, k4⟩ := He.ba k2
      exact ⟨_, ⟨oc, od, n8, n9, n10, n11, n12, n13, n14, osl, rfl, q, k1, He.dflB_ok k3, He.kwdB_ok k4⟩, kp⟩
    | _ => cases c2
/-- a method: where the class finds it -/
structure MethD (K : PySem.W.Frag) (C : Addr) (d : He.DefD) (f : Addr) : Prop where
  m : Meth K C d.name f
  d : ∃ fd, FunD K d.name d.qual d.params d.body d.scope [] [] f fd
structure ClsD (K : PySem.W.Frag) (C : Addr) (fs : List Str) : Prop where
  cl : Cls K C
  mks : PySem.W.makesIn K C = true
  kp : PySem.W.keepIn K (.ref C) = true
  na : ∀ f ∈ fs, NoAttr K C f
theorem clsD_of {K : PySem.W.Frag} {C : Addr} {ms : List He.DefD} {fs : List Str} (h : c1 K (.ref C) (.cls ms fs) = true) (e : w1 K (.ref C) (.cls ms fs) = ms.map He.DefD.val) :
    ClsD K C fs ∧ ∀ (i : Nat) (d : He.DefD), ms[i]? = some d → ∃ f, MethD K C d f := by
  obtain ⟨h1, h2⟩ := He.ba (show (cchk K C && ((fs.all fun f => He.eqO (PySem.W.findIn K (.ref C) f) (some none)) && ms.all (mchk K C))) = true from h)
  obtain ⟨h3, h4⟩ := He.ba h2
  obtain ⟨g1, g2⟩ := He.ba h1
  obtain ⟨g3, g4⟩ := He.ba g2
  obtain ⟨p1, p2⟩ := He.ba g1
  obtain ⟨p3, p4⟩ := He.ba p2
  obtain ⟨p5, p6⟩ := He.ba p4
  refine ⟨⟨⟨p1, p3, p5, He.eqO_ok p6⟩, g3, g4, fun f hf => He.eqO_ok (List.all_eq_true.mp h3 f hf)⟩, fun i d hd => ?_⟩
  obtain ⟨m1, m2⟩ := He.ba (List.all_eq_true.mp h4 d (List.mem_of_getElem? hd))
  obtain ⟨m3, m4⟩ := He.ba m2
  have e2 : (ms.map fun d => fobs (K.lookup (mAt K C d.name)))[i]? = (ms.map He.DefD.val)[i]? := congrArg (·[i]?) e
  rw [List.getElem?_map, List.getElem?_map, hd] at e2
  have e3 : fobs (K.lookup (mAt K C d.name)) = d.val := Option.some.inj e2
  have kp := (He.ba m4).1
  exact ⟨mAt K C d.name, ⟨⟨He.eqO_ok m1, m3, kp⟩, funD_of e3 m4⟩⟩
end PP
namespace PP
open PySem PySem.Spec PyProof.Rows L2
/-! ### what the walks lean on -/
def fFr : List Str := ["width", "height", "depth", "channels", "tile"]
def fAr : List Str := ["frame", "_texts"]
def fPi : List Str := ["width", "height", "depth", "channels", "_rows"]
def mFr : List He.DefD := [d_Frame_init, d_Frame_across, d_Frame_down, d_Frame_tiles, d_Frame_pixels]
def mAr : List He.DefD := [d_Arrived_init, d_Arrived_digits, d_Arrived_accept, d_Arrived_digit_count]
def mPi : List He.DefD := [d_Picture_init, d_Picture_value, d_Picture_rows]
structure Tx (K : PySem.W.Frag) (mg : Str → Option Value) (CF CA CP : Addr) : Prop where
  fns : ∀ (i : Nat) (x : Str) (d : He.DefD), spec[i]? = some (x, .fn d) → ∃ a fd, mg x = some (.ref a) ∧ FunD K d.name d.qual d.params d.body d.scope [] [] a fd
  nums : ∀ (i : Nat) (x : Str) (n : Int), spec[i]? = some (x, .int n) → ∃ t, mg x = some (.int n t)
  nof : ∀ x ∈ fre, mg x = none
  gF : mg "Frame" = some (.ref CF)
  gA : mg "Arrived" = some (.ref CA)
  gP : mg "Picture" = some (.ref CP)
  cF : ClsD K CF fFr
  cA : ClsD K CA fAr
  cP : ClsD K CP fPi
  mF : ∀ (i : Nat) (d : He.DefD), mFr[i]? = some d → ∃ f, MethD K CF d f
  mA : ∀ (i : Nat) (d : He.DefD), mAr[i]? = some d → ∃ f, MethD K CA d f
  mP : ∀ (i : Nat) (d : He.DefD), mPi[i]? = some d → ∃ f, MethD K CP d f
theorem spec_nd : (spec.map (·.1)).Nodup := by decide +kernel
theorem spec_fre : ∀ x ∈ fre, ∀ y ∈ spec.map (·.1), ¬ y = x := by decide +kernel
theorem tx_of {K : PySem.W.Frag} {h : Heap} {mg : Str → Option Value} (X : K.In h) (G : h.Ns mainGlobals mg) (c : obs1 "_wall" spec fre K = val1 spec) : ∃ CF CA CP, Tx K mg CF CA CP := by
  obtain ⟨es, R⟩ := rd1_of c
  have cls : ∀ (i : Nat) (x : Str) (ms : List He.DefD) (fs : List Str), spec[i]? = some (x, .cls ms fs) → ∃ C, mg x = some (.ref C) ∧ ClsD K C fs ∧ ∀ (i : Nat) (d : He.DefD), ms[i]? = some d → ∃ f, MethD K C d f := fun i x ms fs hi => by
    obtain ⟨v, g1, g2, g3⟩ := R.at_name spec_nd hi
    cases v with
    | ref C => exact ⟨C, PySem.W.mg_of X G g1, clsD_of g2 g3⟩
    | _ => cases g2
  obtain ⟨CF, gF, cF, mF⟩ := cls 35 _ _ _ rfl
  obtain ⟨CA, gA, cA, mA⟩ := cls 43 _ _ _ rfl
  obtain ⟨CP, gP, cP, mP⟩ := cls 46 _ _ _ rfl
  refine ⟨CF, CA, CP, ⟨fun i x d hi => ?_, fun i x n hi => ?_, fun x hx => ?_, gF, gA, gP, cF, cA, cP, mF, mA, mP⟩⟩
  · obtain ⟨v, g1, g2, g3⟩ := R.at_name spec_nd hi
    cases v with
    | ref a =>
      have e2 : [fobs (K.lookup a)] = [d.val] := g3
      injection e2 with e3 _
      obtain ⟨fd, F⟩ := funD_of e3 g2
      exact ⟨a, fd, PySem.W.mg_of X G g1, F⟩
    | _ => cases g2
  · obtain ⟨v, g1, g2, g3⟩ := R.at_name spec_nd hi
    cases v with
    | int j t =>
      have e : j = n := of_decide_eq_true g2
      rw [e] at g1
      exact ⟨t, PySem.W.mg_of X G g1⟩
    | _ => cases g2
  · exact PySem.W.mg_none_of X G (R.free hx fun p hp => spec_fre x hx p.1 (List.mem_map.mpr ⟨p, hp, rfl⟩))
/-! ### a def that keeps its promise, by its name -/
structure Cal (P : Program) (w : World) (K : PySem.W.Frag) (mg : Str → Option Value) (base : Heap) (k : Nat) (x : Str) (ps : List Str) (sp : Sp) : Prop where
  ex : ∃ (f : Addr) (fd : FuncData), mg x = some (.ref f) ∧ FnOk P w K mg base CX0 k f fd ps sp ∧ PySem.W.keepIn K (.ref f) = true ∧ Binds K fd ps []
structure MCal (P : Program) (w : World) (K : PySem.W.Frag) (mg : Str → Option Value) (base : Heap) (k : Nat) (C : Addr) (m : Str) (ps : List Str) (sp : Sp) : Prop where
  ex : ∃ (f : Addr) (fd : FuncData), Meth K C m f ∧ FnOk P w K mg base CX0 k f fd ps sp ∧ Binds K fd ps []
section
variable {X : Cx} {k j : Nat} {C : Addr} {x m : Str} {ps : List Str} {sp : Sp} {p pos apos : Pos} {e o : Expr} {es : List Expr} {ta : TE} {t : TA}
theorem Cal.up {P : Program} {w : World} {K : PySem.W.Frag} {mg : Str → Option Value} {base : Heap} (c : Cal P w K mg base k x ps sp) : Cal P w K mg base k x ps sp := c
theorem pe_cal (c : Cal X.prog X.w X.K X.mg X.base j x ps sp) (hr : Room k X.A) (ha : PA X (e :: es) t) (hj : j ≤ k := by decide) (hg : Gl X x := by rfl) (hdb : (x == ("__debug__" : Str)) = false := by decide)
    (he : starEach (e :: es) X.env = (false, eval e X.env) :: starEach es X.env := by rfl) (hpl : (backTo pos (starEach es X.env)).any (·.1) = false := by rfl) : PE X (.Call (.Name x p) (e :: es) [] pos) (tCall sp [] E0 t) := by
  obtain ⟨f, fd, hm, F, kp, b⟩ := c.ex
  exact pe_call F (hr.mono hj) hg hm kp b .nil pass0 ha hdb he hpl
theorem pe_mcal {pl : Sem Bool} (c : Cls X.K C) (M : MCal X.prog X.w X.K X.mg X.base j C m ps sp) (hr : Room k X.A) (he : PE X o ta) (ha : PA X (e :: es) t) (hj : j ≤ k := by decide)
    (hst : starEach (e :: es) X.env = (false, eval e X.env) :: starEach es X.env := by rfl) (hpl : (backTo pos (starEach es X.env)).any (·.1) = false := by rfl)
    (ht : eval (.Call (.Attribute o m apos) (e :: es) [] pos) X.env = (do
      let ov ← eval o X.env
      standAt apos.atName
      let (f, first) ← holding [ov] (getMethod ov m pl)
      callWith pos f first (backTo pos (starEach (e :: es) X.env)) (backToKw pos (keywordEach [] X.env))) := by rfl) :
    PE X (.Call (.Attribute o m apos) (e :: es) [] pos) (tMeth C m sp [] E0 ta t) := by
  obtain ⟨f, fd, hm, F, b⟩ := M.ex
  exact pe_meth he c hm F (hr.mono hj) b .nil pass0 ha hst hpl ht
theorem pe_mcal0 {pl : Sem Bool} (c : Cls X.K C) (M : MCal X.prog X.w X.K X.mg X.base j C m ps sp) (hr : Room k X.A) (he : PE X o ta) (hj : j ≤ k := by decide)
    (ht : eval (.Call (.Attribute o m apos) [] [] pos) X.env = (do
      let ov ← eval o X.env
      standAt apos.atName
      let (f, first) ← holding [ov] (getMethod ov m pl)
      callWith pos f first (backTo pos (starEach [] X.env)) (backToKw pos (keywordEach [] X.env))) := by rfl) :
    PE X (.Call (.Attribute o m apos) [] [] pos) (tMeth C m sp [] E0 ta tNil) := by
  obtain ⟨f, fd, hm, F, b⟩ := M.ex
  exact pe_meth0 he c hm F (hr.mono hj) b .nil pass0 ht
theorem pe_mk {fs : List Str} (cd : ClsD X.K C fs) (M : MCal X.prog X.w X.K X.mg X.base j C "__init__" ps sp) (hr : Room k X.A) (hm : X.mg x = some (.ref C)) (ha : PA X (e :: es) t) (hj : j + 1 ≤ k := by decide) (hg : Gl X x := by rfl) (hdb : (x == ("__debug__" : Str)) = false := by decide)
    (he : starEach (e :: es) X.env = (false, eval e X.env) :: starEach es X.env := by rfl) (hpl : (backTo pos (starEach es X.env)).any (·.1) = false := by rfl) : PE X (.Call (.Name x p) (e :: es) [] pos) (tMake C sp [] E0 t) := by
  obtain ⟨f, fd, hm', F, b⟩ := M.ex
  exact pe_make ⟨cd.mks, hm'.at_, hm'.fn, cd.kp⟩ F (hr.mono hj) hg hm b .nil pass0 ha hdb he hpl
/-- a module's int -/
theorem pe_gi {n : Int} (h : ∃ t, X.mg x = some (.int n t)) (hg : Gl X x := by rfl) (hd : (x == ("__debug__" : Str)) = false := by decide) : PE X (.Name x p) (tC (.int n)) := by
  obtain ⟨t, e⟩ := h
  exact pe_glob hg e ⟨t, rfl⟩ hd
end
/-- the body of a def, as the rules want it -/
abbrev BodyOk (P : Program) (w : World) (K : PySem.W.Frag) (mg : Str → Option Value) (base : Heap) (k : Nat) (N : List Str) (d : He.DefD) (sp : Sp) : Prop :=
  ∀ (f : Addr) (cdv : Value) (A : Around) (outer : List Env) (s : Shared) (H : Hp) (vs : List V) (Q : VK) (E : XK), Room k (A.deeper (envOfC d.qual d.scope s.heap.objs.size f cdv)) → sp vs H Q E →
    ∃ t, PSs (cxOf CX0 P w K mg base N d.qual d.scope f cdv A outer s H E).nox d.body t ∧ t { nx := fun _ H' => Q .non H', rt := Q } (start N vs) H
abbrev BindOk (ps : List Str) (d : He.DefD) : Prop := ∀ (kV doc pm : Value) (an : Option Addr) (cdv ct : Value) (us : List Value), us.length = ps.length → bindArgs (PySem.W.fnOf d.name d.qual d.params d.body d.scope .none kV doc pm an cdv ct) ⟨us, []⟩ = pure (ps.zip us)
section
variable {P : Program} {w : World} {K : PySem.W.Frag} {mg : Str → Option Value} {base : Heap} {CF CA CP : Addr} {k : Nat} {N ps : List Str} {sp : Sp} {d : He.DefD} {x : Str}
theorem Tx.cal (T : Tx K mg CF CA CP) (i : Nat) (hi : spec[i]? = some (x, .fn d)) (S : FnScope N ps d.scope) (hb : BindOk ps d) (len : ∀ vs H Q E, sp vs H Q E → vs.length = ps.length) (body : BodyOk P w K mg base k N d sp) : Cal P w K mg base (k + 1) x ps sp := by
  obtain ⟨f, fd, hm, F⟩ := T.fns i x d hi
  refine ⟨f, fd, hm, F.ok S len (fun cdv A outer s H vs Q E hr h => ?_), F.kp, F.bindsN hb⟩
  obtain ⟨t, h1, h2⟩ := body f cdv A outer s H vs Q E hr h
  exact ⟨t, PSs.nox h1, h2⟩
theorem mcal_of {C f : Addr} (M : MethD K C d f) (S : FnScope N ps d.scope) (hb : BindOk ps d) (len : ∀ vs H Q E, sp vs H Q E → vs.length = ps.length) (body : BodyOk P w K mg base k N d sp) : MCal P w K mg base (k + 1) C d.name ps sp := by
  obtain ⟨fd, F⟩ := M.d
  refine ⟨f, fd, M.m, F.ok S len (fun cdv A outer s H vs Q E hr h => ?_), F.bindsN hb⟩
  obtain ⟨t, h1, h2⟩ := body f cdv A outer s H vs Q E hr h
  exact ⟨t, PSs.nox h1, h2⟩
end
end PP
namespace PP
open PySem PySem.Spec PyProof.Rows L2
/-! ### texts as lists of signs -/
def tx (l : List Nat) : Str := ⟨l.toArray⟩
theorem tx_len (l : List Nat) : (tx l).length = l.length := rfl
theorem tx_cps (l : List Nat) : (tx l).cps.toList = l := rfl
theorem tx_app (a b : List Nat) : tx a ++ tx b = tx (a ++ b) := by
  show (⟨a.toArray ++ b.toArray⟩ : Str) = ⟨(a ++ b).toArray⟩
  rw [List.append_toArray]
theorem tx_inj {a b : List Nat} : tx a = tx b ↔ a = b := by
  constructor
  · intro h
    have h2 : (tx a).cps.toList = (tx b).cps.toList := by rw [h]
    exact h2
  · intro h
    rw [h]
theorem tx0 : ("0" : Str) = tx [48] := by decide +kernel
theorem tx1 : ("1" : Str) = tx [49] := by decide +kernel
theorem txq : ("?" : Str) = tx [63] := by decide +kernel
theorem txe : ("" : Str) = tx [] := by decide +kernel
theorem dec_tx (a b : List Nat) : decide (V.str (tx a) = V.str (tx b)) = decide (a = b) := by
  by_cases h : a = b
  · rw [decide_eq_true h, decide_eq_true (by rw [h])]
  · rw [decide_eq_false h, decide_eq_false (fun q => h (tx_inj.mp (V.str.inj q)))]
theorem dec_i (a b : Int) : decide (V.int a = V.int b) = decide (a = b) := by
  by_cases h : a = b
  · rw [decide_eq_true h, decide_eq_true (by rw [h])]
  · rw [decide_eq_false h, decide_eq_false (fun q => h (V.int.inj q))]
theorem dec_b (a b : Bool) : decide (V.bl a = V.bl b) = (a == b) := by
  cases a <;> cases b <;> decide
theorem atI_nn {α : Type} {xs : List α} {i : Int} {c : α} (h0 : 0 ≤ i) (h : xs[i.toNat]? = some c) : atI xs i = some c := by
  have e : i = ((i.toNat : Nat) : Int) := by omega
  rw [e]
  exact atI_nat h
theorem pe_tx {X : Cx} {x : Str} {l : List Nat} {j : Nat} {pos : Pos} (h : x = tx l) : PE X (.Constant (.str x) j pos) (tC (.str (tx l))) := by
  rw [h]
  exact pe_str
/-! ### steps of a reading, one construct each -/
section
variable {σ : L2.St} {H : Hp} {Q : VK} {v x y : V} {ta tb te td ty : TE} {tt tu : TT} {R : Bool → Hp → Prop} {t u : TS} {D : Ends} {K : PySem.W.Frag} {tr : TA} {QA : List V → Hp → Prop}
theorem g_var {i : Nat} (h : σ[i]? = some (some v)) (q : Q v H) : tVar i σ H Q := ⟨v, h, q⟩
theorem g_c (q : Q v H) : tC v σ H Q := q
theorem g_op {r : R2} (q : ta σ H fun x H1 => tb σ H1 fun y H2 => r x y H2 Q) : tOp r ta tb σ H Q := q
theorem g_un {r : V → Hp → VK → Prop} (q : ta σ H fun x H1 => r x H1 Q) : tUn r ta σ H Q := q
theorem g_I0 {g : Int → Int → V} {i j : Int} (q : Q (g i j) H) : rI0 g (.int i) (.int j) H Q := ⟨i, j, rfl, rfl, q⟩
theorem g_I {C : Int → Int → Prop} {g : Int → Int → V} {i j : Int} (c : C i j) (q : Q (g i j) H) : rI C g (.int i) (.int j) H Q := ⟨i, j, rfl, rfl, c, q⟩
theorem g_U {g : Int → V} {i : Int} (q : Q (g i) H) : rU g (.int i) H Q := ⟨i, rfl, q⟩
theorem g_eqI {i j : Int} (q : Q (.bl (decide (i = j))) H) : rEq (.int i) (.int j) H Q := ⟨rfl, by rw [dec_i]; exact q⟩
theorem g_neI {i j : Int} (q : Q (.bl (!decide (i = j))) H) : rNe (.int i) (.int j) H Q := ⟨rfl, by rw [dec_i]; exact q⟩
theorem g_eqT {a b : List Nat} (q : Q (.bl (decide (a = b))) H) : rEq (.str (tx a)) (.str (tx b)) H Q := ⟨rfl, by rw [dec_tx]; exact q⟩
theorem g_neT {a b : List Nat} (q : Q (.bl (!decide (a = b))) H) : rNe (.str (tx a)) (.str (tx b)) H Q := ⟨rfl, by rw [dec_tx]; exact q⟩
theorem g_eqS {a b : Nat} (q : Q (.bl (decide (a = b))) H) : rEq (.str (tx [a])) (.str (tx [b])) H Q := by
  refine g_eqT ?_
  have e : decide ([a] = [b]) = decide (a = b) := by
    by_cases h : a = b
    · rw [decide_eq_true h, decide_eq_true (by rw [h])]
    · rw [decide_eq_false h, decide_eq_false (fun q => h (by injection q))]
  rw [e]
  exact q
theorem g_eqB {a b : Bool} (q : Q (.bl (a == b)) H) : rEq (.bl a) (.bl b) H Q := ⟨rfl, by rw [dec_b]; exact q⟩
theorem g_neB {a b : Bool} (q : Q (.bl (!(a == b))) H) : rNe (.bl a) (.bl b) H Q := ⟨rfl, by rw [dec_b]; exact q⟩
theorem g_tst (q : te σ H fun x H' => ∃ k, x = .bl k ∧ R k H') : tTest te σ H R := q
theorem g_B (q : te σ H fun x H' => ∃ k, x = .bl k ∧ R k H') : tB te σ H R := q
theorem g_bl {b : Bool} (q : R b H) : ∃ k, V.bl b = .bl k ∧ R k H := ⟨b, rfl, q⟩
theorem g_blc {b : Bool} {P : Bool → Prop} (q : P b) : ∃ k, V.bl b = .bl k ∧ P k := ⟨b, rfl, q⟩
theorem g_seq (q : t { D with nx := u D } σ H) : tSeq t u D σ H := q
theorem g_set {i : Nat} (q : te σ H fun x H1 => D.nx (σ.set i (some x)) H1) : tAsg te (gName i) D σ H := q
theorem g_asg {g : TG} (q : te σ H fun x H1 => g x σ H1 D.nx) : tAsg te g D σ H := q
theorem g_ret (q : te σ H D.rt) : tRet te D σ H := q
theorem g_drop (q : te σ H fun _ H1 => D.nx σ H1) : tDrop te D σ H := q
theorem g_if (q : tt σ H fun b H1 => if b = true then t D σ H1 else u D σ H1) : tIfS tt t u D σ H := q
theorem g_ifE (q : tt σ H fun b H1 => if b = true then ta σ H1 Q else tb σ H1 Q) : tIf tt ta tb σ H Q := q
theorem g_and (q : tt σ H fun c H1 => if c = true then tu σ H1 R else R false H1) : tAnd tt tu σ H R := q
theorem g_or (q : tt σ H fun c H1 => if c = true then R true H1 else tu σ H1 R) : tOr tt tu σ H R := q
theorem g_not (q : tt σ H fun c H1 => R (!c) H1) : tNot tt σ H R := q
theorem g_nil (q : QA [] H) : tNil σ H QA := q
theorem g_cons (q : ta σ H fun x H1 => tr σ H1 fun xs H2 => QA (x :: xs) H2) : tCons ta tr σ H QA := q
theorem g_tup (q : tr σ H fun xs H1 => xs.length ≤ sizeLine ∧ ∀ p, H1 p = none → Q (.ref p) (upd H1 p (.tup xs))) : tTup tr σ H Q := q
theorem g_lst (q : tr σ H fun xs H1 => xs.length ≤ sizeLine ∧ ∀ p, H1 p = none → Q (.ref p) (upd H1 p (.lst xs))) : tLst tr σ H Q := q
theorem g_cb {r : List V → Hp → VK → Prop} (q : tr σ H fun vs H1 => r vs H1 Q) : tCB r tr σ H Q := q
theorem g_call {sp : Sp} {dvs : List V} {E : XK} (q : tr σ H fun vs H1 => sp (vs ++ dvs) H1 Q E) : tCall sp dvs E tr σ H Q := q
theorem g_thn {n : Prop} (h : n) (q : n → Prop) (k : q h) : q h := k
/-- the two ways of a test -/
theorem g_ite {b : Bool} {A B : Prop} (h1 : b = true → A) (h2 : b = false → B) : if b = true then A else B := by
  cases b with
  | true => exact iteT (h1 rfl)
  | false => exact iteF (h2 rfl)
/-- and, both sides known -/
theorem g_andJ {b1 b2 : Bool} (h : b1 = true → ∀ R' : Bool → Hp → Prop, R' b2 H → tu σ H R') (q : R (b1 && b2) H) : if b1 = true then tu σ H R else R false H := by
  cases b1 with
  | true => exact iteT (h rfl _ q)
  | false => exact iteF q
theorem g_orJ {b1 b2 : Bool} (h : b1 = false → ∀ R' : Bool → Hp → Prop, R' b2 H → tu σ H R') (q : R (b1 || b2) H) : if b1 = true then R true H else tu σ H R := by
  cases b1 with
  | true => exact iteT q
  | false => exact iteF (h rfl _ q)
/-- if c: x = e, both ways in one -/
theorem g_whenJ {b : Bool} {i : Nat} {v0 v1 : V} (h0 : σ[i]? = some (some v0)) (h1 : b = true → ∀ Q' : VK, Q' v1 H → te σ H Q') (q : D.nx (σ.set i (some (if b = true then v1 else v0))) H) :
    if b = true then tAsg te (gName i) D σ H else tNext D σ H := by
  cases b with
  | true => exact iteT (h1 rfl _ q)
  | false =>
    refine iteF ?_
    have q2 : D.nx (σ.set i (some v0)) H := q
    have e : σ.set i (some v0) = σ := by
      obtain ⟨hi, he⟩ := List.getElem?_eq_some_iff.mp h0
      rw [← he]
      exact List.set_getElem_self hi
    rw [e] at q2
    exact q2
/-- a if c else b, both ways in one -/
theorem g_ifJ {b : Bool} {v1 v2 : V} (h1 : b = true → ∀ Q' : VK, Q' v1 H → ta σ H Q') (h2 : b = false → ∀ Q' : VK, Q' v2 H → tb σ H Q') (q : Q (if b = true then v1 else v2) H) : if b = true then ta σ H Q else tb σ H Q := by
  cases b with
  | true => exact iteT (h1 rfl _ q)
  | false => exact iteF (h2 rfl _ q)
/-- if c: x = an int, both ways in one -/
theorem g_whenI {b : Bool} {i : Nat} {i0 i1 : Int} (h0 : σ[i]? = some (some (.int i0))) (h1 : b = true → ∀ Q' : VK, Q' (.int i1) H → te σ H Q') (q : D.nx (σ.set i (some (.int (if b = true then i1 else i0)))) H) :
    if b = true then tAsg te (gName i) D σ H else tNext D σ H := by
  refine g_whenJ h0 h1 ?_
  cases b <;> exact q
theorem g_ifI {b : Bool} {i1 i2 : Int} (h1 : b = true → ∀ Q' : VK, Q' (.int i1) H → ta σ H Q') (h2 : b = false → ∀ Q' : VK, Q' (.int i2) H → tb σ H Q') (q : Q (.int (if b = true then i1 else i2)) H) : if b = true then ta σ H Q else tb σ H Q := by
  refine g_ifJ h1 h2 ?_
  cases b <;> exact q
theorem g_nx {f : L2.St → Hp → Prop} {r : VK} {b c : L2.St → Hp → Prop} (q : f σ H) : (Ends.mk f r b c).nx σ H := q
theorem g_rt {f : L2.St → Hp → Prop} {r : VK} {b c : L2.St → Hp → Prop} (q : r v H) : (Ends.mk f r b c).rt v H := q
theorem g_ct {f : L2.St → Hp → Prop} {r : VK} {b c : L2.St → Hp → Prop} (q : c σ H) : (Ends.mk f r b c).ct σ H := q
theorem g_nxt (q : D.nx σ H) : tNext D σ H := q
/-- a sign of a text -/
theorem g_ixS {l : List Nat} {i : Int} (n : Nat) (hl : l.length ≤ 100000) (e : i = (n : Int)) (h : n < l.length) (q : Q (.str (tx [l.getD n 0])) H) : rIxS (.str (tx l)) (.int i) H Q :=
  ⟨tx l, i, l.getD n 0, rfl, rfl, Evl.sz_of (by rw [tx_len]; exact hl), by
    rw [e]
    refine atI_nat ?_
    rw [tx_cps, List.getElem?_eq_getElem h, List.getD_eq_getElem?_getD, List.getElem?_eq_getElem h] <;> rfl, q⟩
theorem g_fld {a C dx : Addr} {fs : List (Str × V)} {f : Str} (ho : H a = some (.ins C dx fs)) (hc : Cls K C) (hn : NoAttr K C f) (hl : fs.lookup f = some v) (q : Q v H) :
    ∃ a' C' dx' fs' v', V.ref a = .ref a' ∧ H a' = some (.ins C' dx' fs') ∧ Cls K C' ∧ NoAttr K C' f ∧ fs'.lookup f = some v' ∧ Q v' H := ⟨a, C, dx, fs, v, rfl, ho, hc, hn, hl, q⟩
theorem g_fldE {f : Str} (q : ta σ H fun x H1 => ∃ a C dx fs v, x = .ref a ∧ H1 a = some (.ins C dx fs) ∧ Cls K C ∧ NoAttr K C f ∧ fs.lookup f = some v ∧ Q v H1) : tFld K ta f σ H Q := q
end
end PP
namespace PP
open PySem PySem.Spec PyProof.Rows L2
/-- a name's new value, in a state that is written out -/
local macro_rules | `(tactic| walk_at "set") => `(tactic| (simp only [List.set_cons_succ, List.set_cons_zero]; exact rfl))
local macro_rules | `(tactic| walk_at "start") => `(tactic| (refine g_start (σ' := ?sgm) ?hstart ?_; (case hstart => (simp only [start_eS, start_eN, start_e0]; exact rfl))))
/-- one step of a reading -/
local macro_rules | `(tactic| walk_at "g1") => `(tactic| first
  | fail)
local macro_rules | `(tactic| walk_at "go") => `(tactic| repeat (walk_at "g1"))
/-- if c: x = an int, joined -/
local macro_rules | `(tactic| walk_at "when") => `(tactic| (refine g_whenI (i0 := ?wj) (i1 := ?wi) ?wo ?wh ?_; (case wo => exact rfl); (case wh => (intro hw Q' hq; walk_at "go"; exact hq))))
/-- a heap that has only grown -/
local macro_rules | `(tactic| walk_at "same") => `(tactic| repeat (first | exact Same.refl _ | assumption | refine L2.Same.new ?_ (by assumption)))
/-- what stands at a place of a heap that has only grown -/
local macro_rules | `(tactic| walk_at "get") => `(tactic| repeat (first | exact upd_same | assumption | refine upd_get (by assumption) ?_))
/-! ### rules that the layer lacks: a text times a number, a list of a reversed range, a sorted dict turned round -/
theorem rep_cps (c : Nat) (n : Nat) : (List.replicate n (#[c] : Array Nat)).foldl (· ++ ·) #[] = (List.replicate n c).toArray := by
  have h : ∀ (n : Nat) (a : Array Nat), (List.replicate n (#[c] : Array Nat)).foldl (· ++ ·) a = a ++ (List.replicate n c).toArray := by
    intro n
    induction n with
    | zero => intro a; simp
    | succ n ih =>
      intro a
      rw [List.replicate_succ, List.foldl_cons, ih, List.replicate_succ, Array.append_assoc]
      congr 1
      simp
  rw [h]
  simp
/-- a sign, n times -/
def rMulS : R2 := fun x y H Q => ∃ (c n : Nat), x = .str (tx [c]) ∧ y = .int (n : Int) ∧ n ≤ 1000 ∧ Q (.str (tx (List.replicate n c))) H
theorem op_mulS {X : Cx} : OpR X (binaryOp .Mult) rMulS := by
  intro pins s σ H x y v u Q I rx ry h
  obtain ⟨c, n, rfl, rfl, hn, q⟩ := h
  obtain ⟨t, rfl⟩ := rx
  obtain ⟨t', rfl⟩ := ry
  refine PySem.P.mul_str ?_ (fun h1 h2 => ?_) (fun h1 h2 => ?_) ?_
  · have e1 : ¬ ((n : Int) < -(2 ^ 63 : Int)) := by omega
    have e2 : ¬ ((n : Int) ≥ 2 ^ 63) := by omega
    rw [decide_eq_false e1, decide_eq_false e2] <;> rfl
  · have e0 : (((tx [c]).length : Nat) : Int) = 1 := rfl
    rw [e0]
    have h3 : ((2 : Int) ^ 63 - 1) / (n : Int) ≥ 1 := by
      refine (Int.le_ediv_iff_mul_le (by omega)).mpr ?_
      omega
    omega
  · have e0 : (tx [c]).length * ((n : Int)).toNat = n := by
      show 1 * _ = _
      omega
    rw [e0]
    unfold PySem.Builtin.Str.tooLong
    rw [sizeLine_eq]
    exact decide_eq_false (by omega)
  · by_cases h1 : (n : Int) < 1
    · rw [if_pos h1]
      have e : n = 0 := by omega
      subst e
      exact ⟨by decide, ⟨.str (tx []), H, I.tok _, ⟨_, rfl⟩, q⟩⟩
    · rw [if_neg h1]
      by_cases h2 : n = 1
      · subst h2
        rw [if_pos (by rfl)]
        exact ⟨.str (tx [c]), H, I, ⟨_, rfl⟩, q⟩
      · have h3 : ((n : Int) == 1 || (tx [c]).length == 0) = false := by
          have e1 : ((n : Int) == 1) = false := beq_eq_false_iff_ne.mpr (by omega)
          rw [e1]
          rfl
        rw [h3, if_neg Bool.false_ne_true]
        have e4 : (⟨(List.replicate ((n : Int)).toNat (tx [c]).cps).foldl (· ++ ·) #[]⟩ : Str) = tx (List.replicate n c) := by
          show (⟨(List.replicate n (#[c] : Array Nat)).foldl (· ++ ·) #[]⟩ : Str) = _
          rw [rep_cps] <;> rfl
        rw [e4]
        refine ⟨?_, ⟨.str (tx (List.replicate n c)), H, I.tok _, ⟨_, rfl⟩, q⟩⟩
        show (tx (List.replicate n c)).length ≤ sizeLine
        rw [tx_len, List.length_replicate, sizeLine_eq]
        omega

section
variable {prog : Program} {w : World} {A : Around} {E : Value → Shared → Prop} {s : Shared}
theorem rit_hint {I : Addr} {a n c : Int} {Q : Value → Shared → Prop} (hit : IsRangeIter s.heap I a n c) (h : Q (.int n s.toks) { s with toks := s.toks + 1 }) : wpAny (model prog w) A (call (.builtin "range_iterator.__length_hint__") [.ref I]) Q E s := by
  have hT : s.TypeIs (.ref I) "range_iterator" := ⟨_, hit, rfl⟩
  refine wpAny_call_entry PySem.F.slot_range_iterator_length_hint hT PySem.F.entry_range_iterator_length_hint ?_ (PySem.F.args_range_iterator_length_hint_1 _)
  show wpAny _ _ (field (.ref I) 1 >>= _) _ _ s
  refine wpAny_bind (wpAny_field hit rfl (x := rawInt n) rfl ?_)
  show wpAny _ _ (mkInt n >>= _) _ _ s
  refine wpAny_bind (wpAny_mkInt ?_)
  exact wpAny_pure ⟨_, rfl, h⟩
/-- list(it), it a range's iterator just made -/
theorem call_list_rit {I : Addr} {a c : Int} {n : Nat} {Q : Value → Shared → Prop} (hh : A.handled = none) (hit : IsRangeIter s.heap I a (n : Int) c) (hlen : n ≤ 16777216)
    (hQ : ∀ h' tk acc' c', (∀ b o, b ≠ I → s.heap.get? b = some o → h'.get? b = some o) →
      h'.get? s.heap.objs.size = some { cls := .type "list", dict := none, data := .seq acc' c', slots := #[] } → ItemsOf (fun i v => ∃ t, v = .int (a + i * c) t) acc' n → Q (.ref s.heap.objs.size) { s with heap := h', toks := tk }) :
    wpAny (model prog w) A (call (.type "list") [.ref I]) Q E s := by
  have hIlt : I < s.heap.objs.size := Heap.lt_size hit
  refine callType_codes (Q₁ := fun obj s₁ => obj = .ref s.heap.objs.size ∧ s₁ = { s with heap := s.heap.push { cls := .type "list", data := .seq #[] } }) PySem.F.called_list (PySem.F.typeCall_list_1 _) PySem.F.entry_list_init
    (code_list_new _ ⟨rfl, rfl⟩) fun obj s₁ h₁ => ?_
  obtain ⟨rfl, rfl⟩ := h₁
  generalize hS0 : s.heap.objs.size = S at *
  have hS : (s.heap.push { cls := .type "list", data := .seq #[] }).get? S = some { cls := .type "list", data := .seq #[] } := by
    rw [← hS0]
    exact Heap.get?_push_size _ rfl
  have hSI : S ≠ I := Nat.ne_of_gt hIlt
  have hSf : S ∉ [I] := fun hm => hSI (List.mem_singleton.mp hm)
  refine ⟨⟨_, hS, rfl⟩, PySem.F.args_list_init_2 _ _, ?_⟩
  have hit1 : IsRangeIter (s.heap.push { cls := .type "list", data := .seq #[] }) I a (n : Int) c := Heap.get?_push_of_some _ hit
  have up1 : ∀ b o, s.heap.get? b = some o → (s.heap.push { cls := .type "list", data := .seq #[] }).get? b = some o := fun b o e => Heap.get?_push_of_some _ e
  generalize s.heap.push { cls := .type "list", data := .seq #[] } = g at hS hit1 up1
  show wpAny _ A.in1.in1 (do let old ← Builtin.List.listItems (.ref S); Builtin.List.listUpdate (.ref S) (fun _ => #[]); letGo old.toList.reverse; Builtin.List.listExtendWith (.ref S) (.ref I) .none) _ _ _
  refine wpAny_bind ?_
  unfold Builtin.List.listItems
  refine wpAny_bind (wpAny_seqItems hS rfl (wpAny_pure ?_))
  show wpAny _ A.in1.in1 (updateSeq S (fun _ => #[]) >>= fun _ => letGo (#[] : Array Value).toList.reverse >>= fun _ => Builtin.List.listExtendWith (.ref S) (.ref I) .none) _ _ _
  refine wpAny_bind (wpAny_updateSeq hS rfl ?_)
  have hS2 := Heap.get?_update_self (Obj.mapSeq (fun _ => (#[] : Array Value))) hS rfl
  have oth : ∀ b o, b ≠ S → g.get? b = some o → (g.update S (Obj.mapSeq (fun _ => (#[] : Array Value)))).get? b = some o := fun b o hb e => (Heap.get?_update_other _ _ (Ne.symm hb)).trans e
  refine wpAny_bind (wpAny_letGo ?_)
  have hit2 := oth I _ (Ne.symm hSI) hit1
  have up2 : ∀ b o, s.heap.get? b = some o → b ≠ S ∧ (g.update S (Obj.mapSeq (fun _ => (#[] : Array Value)))).get? b = some o := fun b o e =>
    have hb : b ≠ S := by
      rw [← hS0]
      exact Nat.ne_of_lt (Heap.lt_size e)
    ⟨hb, oth b o hb (up1 b o e)⟩
  generalize g.update S (Obj.mapSeq (fun _ => (#[] : Array Value))) = g2 at hS2 hit2 up2
  have hT : ∀ {tk : Nat}, ({ s with heap := g2, toks := tk } : Shared).TypeIs (.ref I) "range_iterator" := ⟨_, hit2, rfl⟩
  unfold Builtin.List.listExtendWith
  refine wpAny_bind (wpAny_typeOf hT ?_)
  have h1 : Builtin.List.listSameRef (.ref S) (.ref I) = false := by simp [Builtin.List.listSameRef, hSI]
  have h2 : (Value.type "range_iterator" == Value.type "list") = false := by decide
  have h3 : (Value.type "range_iterator" == Value.type "tuple") = false := by decide
  simp only [h1, h2, h3, Bool.or_false, Bool.false_eq_true, if_false]
  refine wpAny_bind (wpAny_pyIter_rangeiter hit2 ?_)
  refine wpAny_bind (wpAny_holding ?_)
  unfold Builtin.List.listLengthHint
  refine wpAny_bind (wpAny_specialOf hT PySem.F.nolen_ra ?_)
  show wpAny _ A.in1.in1 (specialOf (Value.ref I) (Str.ofString "__length_hint__") >>= _) _ _ _
  refine wpAny_bind (wpAny_specialOf hT PySem.F.hint_ra ?_)
  (generalize hid : ("range_iterator.__length_hint__" : String) = id0; (fail_if_success (clear hid id0)); wp_delta; rw [show splitId id0 = some ("range_iterator", "__length_hint__") from by subst hid; decide +kernel]; subst hid)
  refine wpAny_bind (wpAny_isInstance (b := true) hT (by rw [isSubtype_type]; kernel_rfl) ?_)
  show wpAny _ A.in1.in1 (call (.builtin "range_iterator.__length_hint__") [.ref I] >>= _) _ _ _
  refine wpAny_bind (rit_hint hit2 ?_)
  refine wpAny_bind (m := asInt? _) (wpAny_pure ?_)
  dsimp only
  have htl : Builtin.List.listTooLong (Int.toNat (n : Int)) = false := by
    unfold Builtin.List.listTooLong
    rw [sizeLine_eq]
    exact decide_eq_false (by omega)
  rw [if_neg (by rw [htl]; decide)]
  refine wpAny_pure ?_
  rw [if_neg (by decide)]
  have W := (Walks.range (prog := prog) (w := w) (A := A.in1.in1) hh I a c n).toS
  have st0 : IsRangeIter g2 I (a + ((0 : Nat) : Int) * c) ((n : Int) - ((0 : Nat) : Int)) c := by
    simpa using hit2
  refine wpAny_pure ⟨plainId_quiet PySem.F.plain_extend_loop _, codeAny_extend_loopS W (by rw [sizeLine_eq]; omega) S hSf _ n 0 _ _ _ rfl (Nat.zero_le _) st0 hS2 (ItemsOf.nil _) fun s' acc' c' hm hS' hacc => ?_⟩
  rw [Moved.eq_with hm]
  refine ⟨rfl, hQ s'.heap s'.toks acc' c' (fun b o hb e => ?_) hS' hacc⟩
  obtain ⟨u1, u2⟩ := up2 b o e
  exact hm.heap b o (fun hmem => by
    rcases List.mem_cons.mp hmem with q | q
    · exact u1 q
    · exact hb (List.mem_singleton.mp q)) u2
end
/-- list(reversed(range(a, b))): the numbers from the last one down -/
def tLstRev (te : L2.St → Hp → (Int → Int → Hp → Prop) → Prop) : TE := fun σ H Q => te σ H fun a b H1 => RgOk a b ∧ ∀ q, H1 q = none → Q (.ref q) (upd H1 q (.lst ((List.range (b - a).toNat).map fun i => V.int (b - 1 - (i : Nat)))))
theorem pe_listRevR {X : Cx} {e : Expr} {te : L2.St → Hp → (Int → Int → Hp → Prop) → Prop} {p p2 pos pos2 : Pos} (hg : Gl X "list") (hm : X.mg "list" = none) (hg2 : Gl X "reversed") (hm2 : X.mg "reversed" = none) (he : PRg X e te) (hc : X.calm = true := by rfl)
    (na : starEach [e] X.env = (false, eval e X.env) :: starEach [] X.env := by rfl)
    (nb : starEach [.Call (.Name "reversed" p2) [e] [] pos2] X.env = (false, eval (.Call (.Name "reversed" p2) [e] [] pos2) X.env) :: starEach [] X.env := by rfl) :
    PE X (.Call (.Name "list" p) [.Call (.Name "reversed" p2) [e] [] pos2] [] pos) (tLstRev te) := by
  refine ⟨fun pins s σ H Q I h => ?_⟩
  refine Call_ (ld_blt I hg hm boot_list (PyProof.Rows.callWith_type1 (args_cons ?_ nb) nb))
  refine Call_ (ld_blt I hg2 hm2 PyProof.Rows.boot_reversed (PyProof.Rows.callWith_type1 (args_cons (thn (he pins s σ H _ I h) fun u s1 hx => args_nil ?_) na) na rfl))
  obtain ⟨r, a, b, t, w1, v, H1, eu, hr, I1, ⟨b1, b2, b3, b4, b5⟩, q⟩ := hx
  subst eu
  have hn : Builtin.Range.rangeSize a b 1 = (((b - a).toNat : Nat) : Int) := rangeSize_nat a b
  refine call_reversed_range hr (smallRev_one b1 b2 b3 b4) (args_nil ?_)
  have e1 : (rngRevObj a b 1).data = .fields #[rawInt (a + ((((b - a).toNat : Nat) : Int) - 1) * 1), rawInt (((b - a).toNat : Nat) : Int), rawInt (-1)] := by
    unfold rngRevObj
    rw [hn]
  have hit : IsRangeIter (s1.heap.push (rngRevObj a b 1)) s1.heap.objs.size (a + ((((b - a).toNat : Nat) : Int) - 1) * 1) (((b - a).toNat : Nat) : Int) (-1) := by
    have z : (s1.heap.push (rngRevObj a b 1)).get? s1.heap.objs.size = some (rngRevObj a b 1) := Heap.get?_push_size _ rfl
    unfold rngRevObj at z
    rw [hn] at z
    unfold rngRevObj
    rw [hn]
    exact z
  refine call_list_rit (s := { s1 with heap := s1.heap.push (rngRevObj a b 1) }) (I1.ok.hd hc) hit (by omega) fun h' tk acc c' hk hD hi => ?_
  have sz : (s1.heap.push (rngRevObj a b 1)).objs.size = s1.heap.objs.size + 1 := Heap.size_push ..
  have up : ∀ b' o, s1.heap.get? b' = some o → h'.get? b' = some o := fun b' o e => hk b' o (Nat.ne_of_lt (Heap.lt_size e)) (Heap.get?_push_of_some _ e)
  have hlen : ((List.range (b - a).toNat).map fun i => V.int (b - 1 - (i : Nat))).length = (b - a).toNat := by rw [List.length_map, List.length_range]
  refine ⟨.ref (s1.heap.push (rngRevObj a b 1)).objs.size, upd H1 _ (.lst ((List.range (b - a).toNat).map fun i => V.int (b - 1 - (i : Nat)))), I1.laid (t' := tk) up (by rw [sz]; exact Nat.le_succ _) ⟨?_, acc.toList, c', ?_, ?_⟩, rfl, q _ (I1.hok.fresh (by rw [sz]; exact Nat.le_succ _))⟩
  · rw [hlen, sizeLine_eq]; omega
  · have hal : acc.toList.length = (b - a).toNat := by rw [Array.length_toList]; exact hi.1
    have z := vals_of_get acc.toList (fun i => V.int (b - 1 - (i : Nat))) fun j u e => ?_
    · rw [hal] at z
      exact z
    · have hj : j < (b - a).toNat := by
        rw [← hal]
        exact (List.getElem?_eq_some_iff.mp e).1
      obtain ⟨t3, et⟩ := hi.2 j u (by rw [← Array.getElem?_toList]; exact e)
      rw [et]
      refine ⟨t3, ?_⟩
      congr 1
      omega
  · rw [Array.toArray_toList]; exact hD

end PP
namespace PP
open PySem PySem.Spec PyProof.Rows L2
/-- a name's new value, in a state that is written out -/
local macro_rules | `(tactic| walk_at "set") => `(tactic| (simp only [List.set_cons_succ, List.set_cons_zero]; exact rfl))
local macro_rules | `(tactic| walk_at "start") => `(tactic| (refine g_start (σ' := ?sgm) ?hstart ?_; (case hstart => (simp only [start_eS, start_eN, start_e0]; exact rfl))))
/-- one step of a reading -/
local macro_rules | `(tactic| walk_at "g1") => `(tactic| first
  | fail)
local macro_rules | `(tactic| walk_at "go") => `(tactic| repeat (walk_at "g1"))
/-- if c: x = an int, joined -/
local macro_rules | `(tactic| walk_at "when") => `(tactic| (refine g_whenI (i0 := ?wj) (i1 := ?wi) ?wo ?wh ?_; (case wo => exact rfl); (case wh => (intro hw Q' hq; walk_at "go"; exact hq))))
/-- a heap that has only grown -/
local macro_rules | `(tactic| walk_at "same") => `(tactic| repeat (first | exact Same.refl _ | assumption | refine L2.Same.new ?_ (by assumption)))
/-- what stands at a place of a heap that has only grown -/
local macro_rules | `(tactic| walk_at "get") => `(tactic| repeat (first | exact upd_same | assumption | refine upd_get (by assumption) ?_))
/-! ### sorted(d, reverse=True) of a dict of ints; more that is walked: enumerate(text), zip(text, text), zip(list, list) to one name, values of a dict with tuple keys -/
theorem each_ints : ∀ {us : List Value} {ks : List Int}, us.length = ks.length → (∀ (j : Nat) (v : Value), us[j]? = some v → ∃ (x : Int) (t : Tok), ks[j]? = some x ∧ v = Value.int x t) → PyProof.Rows.IntsAre us ks
  | [], [], _, _ => .nil
  | u :: us, k :: ks, hl, h => by
    obtain ⟨x, t, e1, e2⟩ := h 0 u rfl
    have e3 : k = x := Option.some.inj e1
    rw [e2, e3]
    exact .cons _ _ (each_ints (Nat.succ.inj hl) fun j v e => h (j + 1) v e)
  | [], _ :: _, hl, _ => by cases hl
  | _ :: _, [], hl, _ => by cases hl
def rSortD : List V → List V → Hp → VK → Prop := fun vs zs H Q => ∃ (a : Addr) (kvs : List (L2.Key × V)) (ks : List Int), vs = [V.ref a] ∧ zs = [.bl true] ∧ Rd H a (.dK kvs) ∧ kvs.map (·.1) = ks.map Sum.inl ∧ ks.length ≤ 1000 ∧
  ∀ (ys : List Int) (p : Addr), ys.Perm ks → H p = none → Q (.ref p) (upd H p (.lst (ys.map V.int)))
theorem cr_sortedRevD {X : Cx} (hcalm : X.calm = true := by rfl) : CallRK X (.builtin "sorted") [Str.ofString "reverse"] rSortD := by
  intro pins s σ H xs zs us ws Q I r rz q
  obtain ⟨a, kvs, ks, rfl, rfl, hd, hks, h64, q⟩ := q
  obtain rfl := Vals.ref1 r
  obtain ⟨w1, rfl, ew⟩ := vals1 rz
  obtain rfl : w1 = Value.bool true := ew
  obtain ⟨z, lo, vs, rel, dd⟩ := dk_rd I.hok hd
  obtain ⟨ep, hat⟩ := dd.dictAt
  have hkeys : vs.map (·.1) = ks.map Sum.inl := rel.keys.symm.trans hks
  have hl : vs.length = ks.length := by
    have e := congrArg List.length hkeys
    rw [List.length_map, List.length_map] at e
    exact e
  have h16 : vs.length ≤ sizeLine := by rw [hl, sizeLine_eq]; omega
  refine PyProof.Rows.call_function_entry_kw PyProof.Rows.kind_sorted PyProof.Rows.plain_sorted PyProof.Rows.entry_sorted (PyProof.Rows.args_sorted_rev _ _) ?_
  unfold Builtin.«sorted»
  refine wpAny_bind (m := checkCount "sorted" 1 1 _) (wpAny_pure ?_)
  refine wpAny_bind (PySem.W.kdu_collect (A := X.A.in1) (PySem.W.kdl_dict (knd := mixKind X.prog X.w) (kvs := vs) (ep := ep) lo) (I.ok.hd hcalm) hat h16 fun h' tk acc hk hacc => ?_)
  have hal : acc.toList.length = ks.length := by rw [Array.length_toList, hacc.1, hl]
  have hS : PyProof.Rows.IntsAre acc.toList ks := each_ints hal fun j v e => by
    obtain ⟨k, x, e1, e2⟩ := hacc.2 j v (by rw [← Array.getElem?_toList]; exact e)
    have e3 : (vs.map (·.1))[j]? = some k := by rw [List.getElem?_map, e1]; rfl
    rw [hkeys, List.getElem?_map] at e3
    cases e4 : ks[j]? with
    | none => rw [e4] at e3; cases e3
    | some y =>
      rw [e4] at e3
      have e5 : Sum.inl y = k := Option.some.inj e3
      subst e5
      rcases keyIs_shape (show keyIs (Sum.inl y) v = true from e2) with ⟨i, t, ek, ev⟩ | ⟨z, t, ek, ev⟩
      · cases ek
        exact ⟨y, t, rfl, ev⟩
      · cases ek
  have I1 : Inv X pins σ H { s with heap := h', toks := tk } := I.kept hk
  refine wpAny_bind (wpAny_newList ?_ (by rw [hal, sizeLine_eq]; omega))
  have hoL : (h'.push (seqObj "list" acc.toList.toArray 0)).get? h'.objs.size = some (seqObj "list" acc.toList.toArray 0) := Heap.get?_push_size _ rfl
  show wpAny _ _ _ _ _ { s with heap := h'.push (seqObj "list" acc.toList.toArray 0), toks := tk }
  refine wpAny_bind (wpAny_holding (PyProof.Rows.wpAny_call_entry_kw PyProof.Rows.slot_list_sort ⟨_, hoL, rfl⟩ PyProof.Rows.entry_list_sort ?_ (PyProof.Rows.args_list_sort_rev _ _)))
  refine SrtR.list_sort_ordR SrtO.swo_int hoL (by rw [hal, sizeLine_eq]; omega) (fun h2 => SrtO.ints_sortable hS h2) fun out hs hb => ⟨_, rfl, ?_⟩
  obtain ⟨ns', k1, k2, k3⟩ := SrtR.ints_outR hS hs hb
  obtain ⟨e', he'⟩ := PyProof.Rows.sortedHeap_at (vs := acc.toList) (out := (if true = true then out.toArray.reverse else out.toArray)) hoL
  have hlen : (ns'.map V.int).length ≤ sizeLine := by
    rw [List.length_map, k2.length_eq, sizeLine_eq]
    omega
  refine wpAny_pure ⟨_, rfl, .ref h'.objs.size, upd H h'.objs.size (.lst (ns'.map V.int)), I1.laid (t' := tk) (fun b u e => ?_) (Nat.le_refl _)
    (show ObjOk X.prog X.w _ _ _ (.lst (ns'.map V.int)) from ⟨hlen, _, e', vals_of_ints k1, by rw [Array.toArray_toList]; exact he'⟩), rfl, q ns' _ k2 (I1.hok.fresh (Nat.le_refl _))⟩
  have hb2 : b < h'.objs.size := Heap.lt_size e
  rw [PyProof.Rows.sortedHeap_old (Nat.ne_of_lt hb2) (by rw [size_push']; exact Nat.lt_succ_of_lt hb2)]
  exact Heap.get?_push_of_some _ e
/-! ### enumerate(text) -/
def Ites (x : Str) : It := ⟨fun i _ => i < x.cps.size, fun i H v H' => ∃ T c, v = .ref T ∧ H T = none ∧ H' = upd H T (.tup [.int (i : Nat), .str ⟨#[c]⟩]) ∧ x.cps[i]? = some c, fun i _ => i = x.cps.size⟩
/-- what such an iterator of tuples does, told once: from GoesN of the library to Turn of the layer -/
theorem turn_pairs {P : Program} {w : World} {K : PySem.W.Frag} {elts : List Expr} {kk : Nat} {tpos : Pos} {I : Addr} {fp wr : List Addr} {n : Nat} {va vb : Nat → V} {St : Nat → Heap → Prop}
    (W : ∀ A : Around, A.handled = none → GoesN P w A (.Tuple elts kk tpos) I fp wr n (fun i h₀ v h => ∃ T x y, v = .ref T ∧ h₀.objs.size ≤ T ∧ RelV (va i) x ∧ RelV (vb i) y ∧ h.IsTuple T #[x, y]) St) (hI : I ∈ fp)
    (ho : ∀ i h, St i h → ∀ b ∈ fp, ∃ o, h.get? b = some o ∧ ∀ v, o.data ≠ .cell v)
    (hs : ∀ (A : Around) i (s : Shared) (Q : Value → Shared → Prop) (E : Value → Shared → Prop), St i s.heap → Q (.ref I) s → wpAny (model P w) A (pyIter (.ref I)) Q E s) :
    Turn P w K (.Tuple elts kk tpos) ⟨fun i _ => i < n, fun i H v H' => ∃ T, v = .ref T ∧ H T = none ∧ H' = upd H T (.tup [va i, vb i]), fun i _ => i = n⟩ fp I St where
  mem := hI
  obj := ho
  keep := fun i h h' st k => (W { handled := none } rfl).frame i h h' st k
  item := by
    intro X hP hw hK hc i pins s σ H E J hf st hg
    subst hP hw hK
    have W1 := W X.A (J.ok.hd hc)
    refine W1.goes i s _ E hg st fun v h' tk hY st' hk htk => ?_
    obtain ⟨T, x, y, rfl, hT, rx, ry, tup⟩ := hY
    have new : ObjOk X.prog X.w (upd H T (.tup [va i, vb i])) h' T (.tup [va i, vb i]) := ⟨by show 2 ≤ sizeLine; decide, [x, y], .cons rx (.cons ry .nil), tup⟩
    have J1 : Inv X pins σ (upd H T (.tup [va i, vb i])) { s with heap := h', toks := tk } := J.turnedNew (ch := fp) (fun b o hb e => hk b o (fun m => hb (W1.sub b m)) e) hf hT new
    refine ⟨.ref T, _, J1, rfl, ⟨T, rfl, J.hok.fresh hT, rfl⟩, st', fun b hb => ?_⟩
    obtain ⟨o, e, _⟩ := ho i s.heap st b hb
    have hb2 : b ≠ T := Nat.ne_of_lt (Nat.lt_of_lt_of_le (Heap.lt_size e) hT)
    rw [upd_ne hb2]
    exact (hf b hb).1
  done := by
    intro X hP hw hK hc i pins s σ H E J hf st hg
    subst hP hw hK
    have hi : i = n := hg
    subst hi
    have W1 := W X.A (J.ok.hd hc)
    exact W1.stops s _ E st fun h' tk hk htk => J.turnedL (ch := fp) (fun b o hb e => hk b o (fun m => hb (W1.sub b m)) e) hf
  self := fun A i s Q E st h => hs A i s Q E st h
/-- the signs of a text, as values -/
def sgn (x : Str) (i : Nat) : V := .str ⟨#[x.cps.getD i 0]⟩
theorem sgn_of {x : Str} {i c : Nat} {u : Tok} (h : x.cps[i]? = some c) : RelV (sgn x i) (.str ⟨#[c]⟩ u) := by
  have e : x.cps.getD i 0 = c := by
    rw [Array.getD_eq_getD_getElem?, h]
    rfl
  unfold sgn
  rw [e]
  exact ⟨u, rfl⟩
/-- enumerate(x): pairs (i, the i-th sign) -/
def ItP (n : Nat) (va vb : Nat → V) : It := ⟨fun i _ => i < n, fun i H v H' => ∃ T, v = .ref T ∧ H T = none ∧ H' = upd H T (.tup [va i, vb i]), fun i _ => i = n⟩
def iEnumS (ta : TA) : TI := fun σ H R => ta σ H fun vs H1 => ∃ x, vs = [.str x] ∧ R (ItP x.cps.size (fun i => .int (i : Nat)) (sgn x)) H1
theorem pi_enumS {X : Cx} {e : Expr} {ta : TA} {p pos tpos : Pos} {elts : List Expr} {kk : Nat} (hg : Gl X "enumerate") (hm : X.mg "enumerate" = none) (ha : PA X [e] ta) (hs : starEach [e] X.env = [(false, eval e X.env)] := by rfl) :
    PI X (.Tuple elts kk tpos) (.Call (.Name "enumerate" p) [e] [] pos) (iEnumS ta) := by
  refine ⟨fun pins s σ H R I h => ?_⟩
  refine Call_ (ld_blt I hg hm boot_enumerate (PyProof.Rows.callWith_type1 (thn (ha.run pos pins s σ H _ I h) fun us s1 ⟨vs, H1, I1, r1, x, ex, q⟩ => ?_) hs rfl))
  subst ex
  obtain ⟨u, rfl, t, rfl⟩ := vals1 r1
  refine call_enumerate_str fun h' he hit hsz hk => wpAny_pyIter_enum he ?_
  have I2 : Inv X pins σ H1 { s1 with heap := h' } := I1.kept (t' := s1.toks) hk
  generalize hz : s1.heap.objs.size = it at he hit hsz
  have hne : it + 1 ≠ it := Nat.succ_ne_self _
  refine ⟨it + 1, [it + 1, it], _, _, H1, rfl, I2, turn_pairs (wr := [it + 1, it]) (n := x.cps.size) (va := fun i => .int (i : Nat)) (vb := sgn x)
    (St := fun i h => (∃ old, IsEnum h (it + 1) it (0 + ((i : Nat) : Int)) old) ∧ h.IsStrIter it (strIterType x) x t i) (fun A hA => ?_) (List.mem_cons_self ..) (fun i h st b hb => ?_) (fun A i s Q E st q => let ⟨⟨_, e1⟩, _⟩ := st; wpAny_pyIter_enum e1 q), ⟨⟨.none, he⟩, hit⟩, fun b hb => ?_, q⟩
  · refine (GoesN.enumFrom 0 (Draws.text (A := A.in1) hA it x t) (it + 1) hne (by simp) (by simp)).mono fun i h₀ v h _ hY => ?_
    obtain ⟨T, t2, y, ev, hT, ⟨c, u, hc, rfl⟩, tup⟩ := hY
    refine ⟨T, _, _, ev, hT, ?_, sgn_of hc, tup⟩
    exact ⟨t2, by rw [Int.zero_add]⟩
  · obtain ⟨⟨old, e1⟩, ⟨o2, e2, _, d2⟩⟩ := st
    have e' : b = it + 1 ∨ b = it := by simpa using hb
    rcases e' with q | q
    · rw [q]; exact ⟨_, e1, fun v z => nomatch z⟩
    · rw [q]; exact ⟨o2, e2, fun v z => by rw [d2] at z; cases z⟩
  · have e' : b = it + 1 ∨ b = it := by simpa using hb
    have hle : s1.heap.objs.size ≤ b := by
      rcases e' with z | z
      · rw [z, hz]; exact Nat.le_succ _
      · rw [z, hz]; exact Nat.le_refl _
    exact I1.fpOk hle (I1.hok.fresh hle)
/-- zip(x, y) of two texts -/
def iZipS (ta : TA) : TI := fun σ H R => ta σ H fun vs H1 => ∃ x y, vs = [.str x, .str y] ∧ R (ItP (min x.cps.size y.cps.size) (sgn x) (sgn y)) H1
theorem pi_zipS {X : Cx} {e e2 : Expr} {ta : TA} {p pos tpos : Pos} {elts : List Expr} {kk : Nat} (hg : Gl X "zip") (hm : X.mg "zip" = none) (ha : PA X [e, e2] ta)
    (hs : starEach [e, e2] X.env = (false, eval e X.env) :: starEach [e2] X.env := by rfl) (hpl : (backTo pos (starEach [e2] X.env)).any (·.1) = false := by rfl) :
    PI X (.Tuple elts kk tpos) (.Call (.Name "zip" p) [e, e2] [] pos) (iZipS ta) := by
  refine ⟨fun pins s σ H R I h => ?_⟩
  refine Call_ (ld_blt I hg hm PyProof.Rows.boot_zip (PyProof.Rows.callWith_type1 (thn (ha.run pos pins s σ H _ I h) fun us s1 ⟨vs, H1, I1, r1, x, y, ex, q⟩ => ?_) hs hpl))
  subst ex
  obtain ⟨u1, u2, rfl, ⟨t1, rfl⟩, t2, rfl⟩ := vals2 r1
  refine zip_begins2 (begins_text x t1) (begins_text y t2) trivial trivial fun h' hz hTI hTO g1 g2 hsz hk => wpAny_pyIter_zip hz ?_
  have I2 : Inv X pins σ H1 { s1 with heap := h' } := I1.kept (t' := s1.toks) hk
  generalize hn : s1.heap.objs.size = m at hz hTI hTO g1 g2
  have S : ZipSep2 (m + 4) (m + 2) (m + 3) m (m + 1) [m] [m + 1] := by
    constructor <;> (try simp) <;> omega
  have frs : ∀ b ∈ (m + 4) :: (m + 2) :: (m + 3) :: ([m] ++ [m + 1]), s1.heap.objs.size ≤ b := fun b hb => by
    have e' : b = m + 4 ∨ b = m + 2 ∨ b = m + 3 ∨ b = m ∨ b = m + 1 := by simpa using hb
    rw [hn]
    rcases e' with z | z | z | z | z <;> (rw [z]; first | exact Nat.le_refl _ | exact Nat.le_add_right _ _)
  refine ⟨m + 4, (m + 4) :: (m + 2) :: (m + 3) :: ([m] ++ [m + 1]), _, _, H1, rfl, I2, turn_pairs (wr := [m + 4, m + 3, m, m + 1]) (n := min x.cps.size y.cps.size) (va := sgn x) (vb := sgn y)
    (St := fun i h => IsZip h (m + 4) (m + 2) (m + 3) .none ∧ IsTupOf2 h (m + 2) (.ref m) (.ref (m + 1)) ∧ (∃ a1 a2, IsTupOf2 h (m + 3) a1 a2) ∧ h.IsStrIter m (strIterType x) x t1 i ∧ h.IsStrIter (m + 1) (strIterType y) y t2 i)
    (fun A hA => ?_) (List.mem_cons_self ..) (fun i h st b hb => ?_) (fun A i s Q E st q => wpAny_pyIter_zip st.1 q), ⟨hz, hTI, ⟨_, _, hTO⟩, ⟨_, g1, rfl, rfl⟩, ⟨_, g2, rfl, rfl⟩⟩, fun b hb => I1.fpOk (frs b hb) (I1.hok.fresh (frs b hb)), q⟩
  · refine (GoesN.zip2 S (Draws.text (A := A.in1) hA m x t1) (Draws.text (A := A.in1) hA (m + 1) y t2)).mono fun i h₀ v h _ hY => ?_
    obtain ⟨T, a, b, ev, hT, ⟨c, u, hc, rfl⟩, ⟨c2, u2, hc2, rfl⟩, tup⟩ := hY
    exact ⟨T, _, _, ev, hT, sgn_of hc, sgn_of hc2, tup⟩
  · obtain ⟨e1, e2, ⟨a1, a2, e3⟩, ⟨o4, e4, _, d4⟩, ⟨o5, e5, _, d5⟩⟩ := st
    have e' : b = m + 4 ∨ b = m + 2 ∨ b = m + 3 ∨ b = m ∨ b = m + 1 := by simpa using hb
    rcases e' with q | q | q | q | q
    · rw [q]; exact ⟨_, e1, fun v z => nomatch z⟩
    · rw [q]; exact ⟨_, e2, fun v z => nomatch z⟩
    · rw [q]; exact ⟨_, e3, fun v z => nomatch z⟩
    · rw [q]; exact ⟨o4, e4, fun v z => by rw [d4] at z; cases z⟩
    · rw [q]; exact ⟨o5, e5, fun v z => by rw [d5] at z; cases z⟩

end PP
namespace PP
open PySem PySem.Spec PyProof.Rows L2
/-- a name's new value, in a state that is written out -/
local macro_rules | `(tactic| walk_at "set") => `(tactic| (simp only [List.set_cons_succ, List.set_cons_zero]; exact rfl))
local macro_rules | `(tactic| walk_at "start") => `(tactic| (refine g_start (σ' := ?sgm) ?hstart ?_; (case hstart => (simp only [start_eS, start_eN, start_e0]; exact rfl))))
/-- one step of a reading -/
local macro_rules | `(tactic| walk_at "g1") => `(tactic| first
  | fail)
local macro_rules | `(tactic| walk_at "go") => `(tactic| repeat (walk_at "g1"))
/-- if c: x = an int, joined -/
local macro_rules | `(tactic| walk_at "when") => `(tactic| (refine g_whenI (i0 := ?wj) (i1 := ?wi) ?wo ?wh ?_; (case wo => exact rfl); (case wh => (intro hw Q' hq; walk_at "go"; exact hq))))
/-- a heap that has only grown -/
local macro_rules | `(tactic| walk_at "same") => `(tactic| repeat (first | exact Same.refl _ | assumption | refine L2.Same.new ?_ (by assumption)))
/-- what stands at a place of a heap that has only grown -/
local macro_rules | `(tactic| walk_at "get") => `(tactic| repeat (first | exact upd_same | assumption | refine upd_get (by assumption) ?_))
/-! ### zip(xs, ys) to one name: the pair that was given out may be held, or be gone -/
abbrev zobj (own : Value) (f : Bool) (TI TO : Addr) : Obj := { cls := .type "zip", data := .fields #[own, .bool f, .bool false, .ref TI, .ref TO] }
section
variable {prog : Program} {w : World} {A : Around} {E : Value → Shared → Prop} {s : Shared} {z TI TO i1 i2 l1 l2 : Addr} {k : Nat} {xs ys : Array Value} {own : Value} {f : Bool}
/-- the pair given out last is gone: the iterator's own tuple is free -/
theorem gone_free {T : Addr} {Q : Bool → Shared → Prop} (hz : s.heap.get? z = some (zobj (rawInt T) f TI TO)) (hT : s.heap.get? T = none) (h : Q true s) : wpAny (model prog w) A (Builtin.SmallTypes.ownedTupleIsFree (.ref z)) Q E s := by
  unfold Builtin.SmallTypes.ownedTupleIsFree
  refine wpAny_bind (wpAny_field hz rfl (x := rawInt T) rfl ?_)
  show wpAny _ _ (loadIfAlive ((T : Int).toNat) >>= _) _ _ _
  rw [Int.toNat_natCast]
  have hl : ∀ {Q' : Option Obj → Shared → Prop}, Q' none s → wpAny (model prog w) A (loadIfAlive T) Q' E s := fun {Q'} q => by
    have h' : Q' (s.heap.get? T) s := by rw [hT]; exact q
    exact fun _ _ _ => h'
  refine wpAny_bind (hl ?_)
  rw [if_pos (by rfl)]
  exact wpAny_pure h
theorem zipF_item {x y a b : Value} {Q : Value → Shared → Prop} (D : ZipApart z TI TO i1 i2 l1 l2) (hz : s.heap.get? z = some (zobj own f TI TO))
    (hfr : ∀ {Q' : Bool → Shared → Prop}, Q' true s → wpAny (model prog w) A (Builtin.SmallTypes.ownedTupleIsFree (.ref z)) Q' E s)
    (hTI : IsPair s.heap TI (.ref i1) (.ref i2)) (hTO : IsPair s.heap TO a b) (h1 : s.heap.IsListIter i1 l1 k) (h2 : s.heap.IsListIter i2 l2 k) (hl1 : s.heap.IsList l1 xs) (hl2 : s.heap.IsList l2 ys) (hx : xs[k]? = some x) (hy : ys[k]? = some y)
    (hQ : ∀ h', h'.get? z = some (zobj (rawInt s.heap.objs.size) false TI TO) → IsPair h' TO x y → h'.IsListIter i1 l1 (k + 1) → h'.IsListIter i2 l2 (k + 1) → IsPair h' s.heap.objs.size x y →
      (∀ c o, c ≠ z → c ≠ TO → c ≠ i1 → c ≠ i2 → s.heap.get? c = some o → h'.get? c = some o) → Q (.ref s.heap.objs.size) { s with heap := h' }) :
    wpAny (model prog w) A (Builtin.«zip.__next__» ⟨[.ref z], []⟩) (fun fin s' => ∃ v, fin = .done (.ret v) ∧ Q v s') E s := by
  show wpAny _ _ (field (.ref z) 2 >>= _) _ _ _
  refine wpAny_bind (wpAny_field hz rfl (x := .bool false) rfl ?_)
  show wpAny _ _ (field (.ref z) 3 >>= _) _ _ _
  refine wpAny_bind (wpAny_field hz rfl (x := .ref TI) rfl ?_)
  refine wpAny_bind (wpAny_seqItems hTI rfl ?_)
  show wpAny _ _ (Builtin.SmallTypes.ownedTupleIsFree (.ref z) >>= _) _ _ _
  refine wpAny_bind (hfr ?_)
  simp only [if_true]
  refine wpAny_bind (wpAny_rule ?_)
  refine wpAny_bind (wpAny_field hz rfl (x := .ref TO) rfl ?_)
  refine wpAny_bind (wpAny_setField_rec hz (by simp) fun g1 hz1 hs1 => ?_)
  replace hz1 : g1.get? z = some (zobj .ellipsis f TI TO) := hz1
  refine wpAny_bind ?_
  simp only [List.zipIdx_cons, List.zipIdx_nil, List.forIn_cons, List.forIn_nil]
  refine wpAny_bind (wpAny_bind (wpAny_onRaise ?_))
  show wpAny _ _ (Builtin.SmallTypes.nextOf (.ref i1) >>= _) _ _ _
  refine wpAny_bind (wpAny_nextOf_list_item (h1.extBut hs1.extBut D.i1z) (hl1.extBut hs1.extBut D.l1z) hx fun g2 h12 hs2 => wpAny_pure ?_)
  have hTO2 : IsPair g2 TO a b := hs2.extBut _ _ D.TOi1 (hs1.extBut _ _ D.TOz hTO)
  refine wpAny_bind (wpAny_seqItems hTO2 rfl ?_)
  refine wpAny_bind (wpAny_updateSeq_pair hTO2 fun g3 hTO3 hs3 => ?_)
  replace hTO3 : IsPair g3 TO x b := hTO3
  refine wpAny_bind (wpAny_letGo (wpAny_pure ?_))
  refine wpAny_bind (wpAny_bind (wpAny_onRaise ?_))
  show wpAny _ _ (Builtin.SmallTypes.nextOf (.ref i2) >>= _) _ _ _
  refine wpAny_bind (wpAny_nextOf_list_item (((h2.extBut hs1.extBut D.i2z).extBut hs2.extBut D.i12.symm).extBut hs3.extBut D.TOi2.symm)
    (((hl2.extBut hs1.extBut D.l2z).extBut hs2.extBut D.l2i1).extBut hs3.extBut D.l2TO) hy fun g4 h24 hs4 => wpAny_pure ?_)
  have hTO4 : IsPair g4 TO x b := hs4.extBut _ _ D.TOi2 hTO3
  refine wpAny_bind (wpAny_seqItems hTO4 rfl ?_)
  refine wpAny_bind (wpAny_updateSeq_pair hTO4 fun g5 hTO5 hs5 => ?_)
  replace hTO5 : IsPair g5 TO x y := hTO5
  refine wpAny_bind (wpAny_letGo (wpAny_pure (wpAny_pure ?_)))
  refine wpAny_bind (wpAny_seqItems hTO5 rfl ?_)
  refine wpAny_bind (wpAny_newTuple ?_)
  have hsz : g5.objs.size = s.heap.objs.size := by rw [hs5.1, hs4.1, hs3.1, hs2.1, hs1.1]
  have hz5 : g5.get? z = some (zobj .ellipsis f TI TO) := hs5.extBut _ _ D.TOz.symm (hs4.extBut _ _ D.i2z.symm (hs3.extBut _ _ D.TOz.symm (hs2.extBut _ _ D.i1z.symm hz1)))
  have hk5 : ∀ c o, c ≠ z → c ≠ TO → c ≠ i1 → c ≠ i2 → s.heap.get? c = some o → g5.get? c = some o := fun c o c1 c2 c3 c4 e =>
    hs5.extBut _ _ c2 (hs4.extBut _ _ c4 (hs3.extBut _ _ c2 (hs2.extBut _ _ c3 (hs1.extBut _ _ c1 e))))
  have h15 : g5.IsListIter i1 l1 (k + 1) := ((h12.extBut hs3.extBut D.TOi1.symm).extBut hs4.extBut D.i12).extBut hs5.extBut D.TOi1.symm
  have h25 : g5.IsListIter i2 l2 (k + 1) := h24.extBut hs5.extBut D.TOi2.symm
  have hzlt : z < g5.objs.size := Heap.lt_size hz5
  show wpAny _ _ (Builtin.SmallTypes.ownedTupleHandOut (.ref z) (.ref g5.objs.size) >>= _) _ _ _
  refine wpAny_bind ?_
  unfold Builtin.SmallTypes.ownedTupleHandOut
  have hz6 : (g5.push { cls := .type "tuple", data := .seq #[x, y] }).get? z = some (zobj .ellipsis f TI TO) := Heap.get?_push_of_some _ hz5
  refine wpAny_bind (wpAny_setField_rec hz6 (by simp) fun g7 hz7 hs7 => ?_)
  replace hz7 : g7.get? z = some (zobj (rawInt g5.objs.size) f TI TO) := hz7
  refine wpAny_setField_rec hz7 (by simp) fun g8 hz8 hs8 => ?_
  replace hz8 : g8.get? z = some (zobj (rawInt g5.objs.size) false TI TO) := hz8
  have up : ∀ c o, c ≠ z → g5.get? c = some o → g8.get? c = some o := fun c o c1 e => hs8.extBut _ _ c1 (hs7.extBut _ _ c1 (Heap.get?_push_of_some _ e))
  have hT8 : IsPair g8 g5.objs.size x y := hs8.extBut _ _ (Nat.ne_of_gt hzlt) (hs7.extBut _ _ (Nat.ne_of_gt hzlt) (Heap.get?_push_size _ rfl))
  rw [hsz] at hz8 hT8
  refine wpAny_pure ⟨_, rfl, ?_⟩
  show Q (.ref g5.objs.size) _
  rw [hsz]
  exact hQ g8 hz8 (up _ _ D.TOz hTO5) (h15.at fun o e => up _ o D.i1z e) (h25.at fun o e => up _ o D.i2z e) hT8 fun c o c1 c2 c3 c4 e => up c o c1 (hk5 c o c1 c2 c3 c4 e)
theorem zipF_end {a b : Value} {Q : PySem.Fin → Shared → Prop} (hh : A.handled = none) (D : ZipApart z TI TO i1 i2 l1 l2) (hz : s.heap.get? z = some (zobj own f TI TO))
    (hfr : ∀ {Q' : Bool → Shared → Prop}, Q' true s → wpAny (model prog w) A (Builtin.SmallTypes.ownedTupleIsFree (.ref z)) Q' E s)
    (hTI : IsPair s.heap TI (.ref i1) (.ref i2)) (hTO : IsPair s.heap TO a b) (h1 : s.heap.IsListIter i1 l1 k) (h2 : s.heap.IsListIter i2 l2 k) (hl1 : s.heap.IsList l1 xs) (hl2 : s.heap.IsList l2 ys) (hend : xs[k]? = none ∨ ys[k]? = none)
    (hE : ∀ h' e, (∀ c o, c ≠ z → c ≠ TO → c ≠ i1 → c ≠ i2 → s.heap.get? c = some o → h'.get? c = some o) → (∃ o, h'.get? e = some o ∧ o.cls = .type "StopIteration") → E (.ref e) { s with heap := h' }) :
    wpAny (model prog w) A (Builtin.«zip.__next__» ⟨[.ref z], []⟩) Q E s := by
  show wpAny _ _ (field (.ref z) 2 >>= _) _ _ _
  refine wpAny_bind (wpAny_field hz rfl (x := .bool false) rfl ?_)
  show wpAny _ _ (field (.ref z) 3 >>= _) _ _ _
  refine wpAny_bind (wpAny_field hz rfl (x := .ref TI) rfl ?_)
  refine wpAny_bind (wpAny_seqItems hTI rfl ?_)
  show wpAny _ _ (Builtin.SmallTypes.ownedTupleIsFree (.ref z) >>= _) _ _ _
  refine wpAny_bind (hfr ?_)
  simp only [if_true]
  refine wpAny_bind (wpAny_rule ?_)
  refine wpAny_bind (wpAny_field hz rfl (x := .ref TO) rfl ?_)
  refine wpAny_bind (wpAny_setField_rec hz (by simp) fun g1 hz1 hs1 => ?_)
  replace hz1 : g1.get? z = some (zobj .ellipsis f TI TO) := hz1
  refine wpAny_bind ?_
  simp only [List.zipIdx_cons, List.zipIdx_nil, List.forIn_cons, List.forIn_nil]
  refine wpAny_bind (wpAny_bind (wpAny_onRaise ?_))
  show wpAny _ _ (Builtin.SmallTypes.nextOf (.ref i1) >>= _) _ _ _
  cases hx : xs[k]? with
  | none =>
    refine wpAny_bind (wpAny_nextOf_list_end hh (h1.extBut hs1.extBut D.i1z) (hl1.extBut hs1.extBut D.l1z) hx fun g2 e hs2 he => ?_)
    obtain ⟨oe, hoe, hce⟩ := he
    have hz2 : g2.get? z = some (zobj .ellipsis f TI TO) := hs2 _ _ D.i1z.symm hz1
    have hez : e ≠ z := fun x => by subst x; rw [hz2] at hoe; cases hoe; simp at hce
    refine wpAny_setField_rec hz2 (by simp) fun g3 _ hs3 => hE g3 e (fun c o c1 _ c3 _ x => hs3.extBut _ _ c1 (hs2 _ _ c3 (hs1.extBut _ _ c1 x))) ⟨oe, hs3.extBut _ _ hez hoe, hce⟩
  | some x =>
    have hy : ys[k]? = none := by rcases hend with h | h; rw [hx] at h; cases h; exact h
    refine wpAny_bind (wpAny_nextOf_list_item (h1.extBut hs1.extBut D.i1z) (hl1.extBut hs1.extBut D.l1z) hx fun g2 h12 hs2 => wpAny_pure ?_)
    have hTO2 : IsPair g2 TO a b := hs2.extBut _ _ D.TOi1 (hs1.extBut _ _ D.TOz hTO)
    refine wpAny_bind (wpAny_seqItems hTO2 rfl ?_)
    refine wpAny_bind (wpAny_updateSeq_pair hTO2 fun g3 hTO3 hs3 => ?_)
    refine wpAny_bind (wpAny_letGo (wpAny_pure ?_))
    refine wpAny_bind (wpAny_bind (wpAny_onRaise ?_))
    show wpAny _ _ (Builtin.SmallTypes.nextOf (.ref i2) >>= _) _ _ _
    refine wpAny_bind (wpAny_nextOf_list_end hh (((h2.extBut hs1.extBut D.i2z).extBut hs2.extBut D.i12.symm).extBut hs3.extBut D.TOi2.symm)
      (((hl2.extBut hs1.extBut D.l2z).extBut hs2.extBut D.l2i1).extBut hs3.extBut D.l2TO) hy fun g4 e hs4 he => ?_)
    obtain ⟨oe, hoe, hce⟩ := he
    have hz4 : g4.get? z = some (zobj .ellipsis f TI TO) := hs4 _ _ D.i2z.symm (hs3.extBut _ _ D.TOz.symm (hs2.extBut _ _ D.i1z.symm hz1))
    have hez : e ≠ z := fun x => by subst x; rw [hz4] at hoe; cases hoe; simp at hce
    refine wpAny_setField_rec hz4 (by simp) fun g5 _ hs5 => hE g5 e (fun c o c1 c2 c3 c4 x => hs5.extBut _ _ c1 (hs4 _ _ c4 (hs3.extBut _ _ c2 (hs2.extBut _ _ c3 (hs1.extBut _ _ c1 x))))) ⟨oe, hs5.extBut _ _ hez hoe, hce⟩
/-- what the iterator may be like between two turns -/
def ZSt (h : Heap) (z TI TO i1 i2 l1 l2 : Addr) (k : Nat) : Prop := (IsZip h z TI TO .none ∨ ∃ T f, IsZipHeld h z TI TO T f) ∧ IsPair h TI (.ref i1) (.ref i2) ∧ (∃ a b, IsPair h TO a b) ∧ h.IsListIter i1 l1 k ∧ h.IsListIter i2 l2 k
theorem zipN_item {x y : Value} {Q : Option Value → Shared → Prop} (D : ZipApart z TI TO i1 i2 l1 l2) (st : ZSt s.heap z TI TO i1 i2 l1 l2 k) (hl1 : s.heap.IsList l1 xs) (hl2 : s.heap.IsList l2 ys) (hx : xs[k]? = some x) (hy : ys[k]? = some y)
    (hQ : ∀ h', ZSt h' z TI TO i1 i2 l1 l2 (k + 1) → IsPair h' s.heap.objs.size x y → (∀ c o, c ≠ z → c ≠ TO → c ≠ i1 → c ≠ i2 → s.heap.get? c = some o → h'.get? c = some o) → Q (some (.ref s.heap.objs.size)) { s with heap := h' }) :
    wpAny (model prog w) A (pyNext (.ref z)) Q E s := by
  obtain ⟨hz, hTI, ⟨a, b, hTO⟩, h1, h2⟩ := st
  rcases hz with hz | ⟨T, f, hz⟩
  · exact wpAny_pyNext_zip_item D hz hTI hTO h1 h2 hl1 hl2 hx hy fun h' q1 q2 q3 q4 q5 _ q7 => hQ h' ⟨.inr ⟨_, false, q1⟩, q7 _ _ D.TIz D.TITO D.TIi1 D.TIi2 hTI, ⟨_, _, q2⟩, q3, q4⟩ q5 q7
  · cases hT : s.heap.get? T with
    | some oT =>
      exact wpAny_pyNext_zip_item_held D hz hT hTI h1 h2 hl1 hl2 hx hy fun h' q1 q2 q3 q4 _ q6 => hQ h' ⟨.inr ⟨T, true, q1⟩, q6 _ _ D.TIz D.TIi1 D.TIi2 hTI, ⟨_, _, q6 _ _ D.TOz D.TOi1 D.TOi2 hTO⟩, q2, q3⟩ q4 fun c o c1 _ c3 c4 e => q6 c o c1 c3 c4 e
    | none =>
      have hTy : s.TypeIs (.ref z) "zip" := ⟨_, hz, rfl⟩
      unfold pyNext
      refine wpAny_bind (wpAny_attempt (wpAny_callSpecial?_slot (name := Str.ofString "__next__") hTy PySem.F.slot_zip_next (wpAny_call_entry PySem.F.slot_zip_next hTy PySem.F.entry_zip_next ?_ (PySem.F.args_zip_next_1 _))))
      exact zipF_item D hz (fun q => gone_free hz hT q) hTI hTO h1 h2 hl1 hl2 hx hy fun h' q1 q2 q3 q4 q5 q7 => wpAny_pure (hQ h' ⟨.inr ⟨_, false, q1⟩, q7 _ _ D.TIz D.TITO D.TIi1 D.TIi2 hTI, ⟨_, _, q2⟩, q3, q4⟩ q5 q7)
theorem zipN_end {Q : Option Value → Shared → Prop} (hh : A.handled = none) (D : ZipApart z TI TO i1 i2 l1 l2) (st : ZSt s.heap z TI TO i1 i2 l1 l2 k) (hl1 : s.heap.IsList l1 xs) (hl2 : s.heap.IsList l2 ys) (hend : xs[k]? = none ∨ ys[k]? = none)
    (hQ : ∀ h', (∀ c o, c ≠ z → c ≠ TO → c ≠ i1 → c ≠ i2 → s.heap.get? c = some o → h'.get? c = some o) → Q none { s with heap := h' }) : wpAny (model prog w) A (pyNext (.ref z)) Q E s := by
  obtain ⟨hz, hTI, ⟨a, b, hTO⟩, h1, h2⟩ := st
  rcases hz with hz | ⟨T, f, hz⟩
  · exact wpAny_pyNext_zip_end hh D hz hTI hTO h1 h2 hl1 hl2 hend hQ
  · cases hT : s.heap.get? T with
    | some oT => exact wpAny_pyNext_zip_end_held hh D hz hT hTI h1 h2 hl1 hl2 hend fun h' q => hQ h' fun c o c1 _ c3 c4 e => q c o c1 c3 c4 e
    | none =>
      have hTy : s.TypeIs (.ref z) "zip" := ⟨_, hz, rfl⟩
      unfold pyNext
      refine wpAny_bind (wpAny_attempt (wpAny_callSpecial?_slot (name := Str.ofString "__next__") hTy PySem.F.slot_zip_next (wpAny_call_entry PySem.F.slot_zip_next hTy PySem.F.entry_zip_next
        (zipF_end hh D hz (fun q => gone_free hz hT q) hTI hTO h1 h2 hl1 hl2 hend fun h' e hk he => ?_) (PySem.F.args_zip_next_1 _))))
      obtain ⟨o, ho, hc⟩ := he
      refine wpAny_bind (wpAny_isInstance (T := "StopIteration") (b := true) ⟨o, ho, hc⟩ isSubtype_stop ?_)
      exact wpAny_pure (hQ _ hk)
end
section
variable {prog : Program} {w : World} {A : Around} {E : Value → Shared → Prop} {s : Shared}
theorem zip_self_any {z TI TO : Addr} {own : Value} {f : Bool} {Q : Value → Shared → Prop} (hz : s.heap.get? z = some (zobj own f TI TO)) (h : Q (.ref z) s) : wpAny (model prog w) A (pyIter (.ref z)) Q E s := by
  have hT : s.TypeIs (.ref z) "zip" := ⟨_, hz, rfl⟩
  refine wpAny_pyIter_slot hT PySem.F.slot_zip_iter (wpAny_call_entry PySem.F.slot_zip_iter hT PySem.F.entry_zip_iter ?_ (PySem.F.args_zip_iter_1 _))
  show wpAny _ _ (ret (.ref z)) _ _ s
  exact wpAny_pure ⟨_, rfl, "zip", _, hT, PySem.F.slot_zip_next.lookup, h⟩
theorem go_name {x : Str} {px : Pos} {it v : Value} {Q : Unit → Shared → Prop} (h : Q () s) : wpAny (model prog w) A (letOwnedTupleGo (.Name x px) it v) Q E s := wpAny_pure h
end
theorem turn_zipN {P : Program} {w : World} {K : PySem.W.Frag} {x : Str} {px : Pos} {a b z TI TO i1 i2 : Addr} (D : ZipApart z TI TO i1 i2 a b) :
    Turn P w K (.Name x px) (Itz K a b) [z, TI, TO, i1, i2] z (fun i h => ZSt h z TI TO i1 i2 a b i) where
  mem := List.mem_cons_self ..
  obj := fun i h st c hc => by
    obtain ⟨hz, hTI, ⟨x, y, hTO⟩, ⟨o1, e1, _, d1⟩, ⟨o2, e2, _, d2⟩⟩ := st
    have hz' : ∃ own f, h.get? z = some (zobj own f TI TO) := by
      rcases hz with q | ⟨T, f, q⟩
      · exact ⟨_, _, q⟩
      · exact ⟨_, _, q⟩
    obtain ⟨own, f, hz⟩ := hz'
    have e' : c = z ∨ c = TI ∨ c = TO ∨ c = i1 ∨ c = i2 := by simpa using hc
    rcases e' with q | q | q | q | q
    · rw [q]; exact ⟨_, hz, fun v q => nomatch q⟩
    · rw [q]; exact ⟨_, hTI, fun v q => nomatch q⟩
    · rw [q]; exact ⟨_, hTO, fun v q => nomatch q⟩
    · rw [q]; exact ⟨o1, e1, fun v q => by rw [d1] at q; cases q⟩
    · rw [q]; exact ⟨o2, e2, fun v q => by rw [d2] at q; cases q⟩
  keep := fun i h h' st k => by
    obtain ⟨hz, hTI, ⟨x, y, hTO⟩, h1, h2⟩ := st
    refine ⟨?_, k TI (by simp) _ hTI, ⟨x, y, k TO (by simp) _ hTO⟩, h1.at fun o q => k i1 (by simp) o q, h2.at fun o q => k i2 (by simp) o q⟩
    rcases hz with q | ⟨T, f, q⟩
    · exact .inl (k z (by simp) _ q)
    · exact .inr ⟨T, f, k z (by simp) _ q⟩
  item := by
    intro X hP hw hK hc i pins s σ H E I hf st hg
    subst hP hw hK
    obtain ⟨xs, ys, x, y, hqx, hqy, hx, hy⟩ := hg
    obtain ⟨its, rv, p, _⟩ := I.list hqx
    obtain ⟨its2, rv2, p2, _⟩ := I.list hqy
    obtain ⟨u, hu, ru⟩ := rv.get hx
    obtain ⟨u2, hu2, ru2⟩ := rv2.get hy
    refine zipN_item D st p.isList p2.isList (x := u) (y := u2) (by simpa using hu) (by simpa using hu2) fun h' st' hT hk => ?_
    have new : ObjOk X.prog X.w (upd H s.heap.objs.size (.tup [x, y])) h' s.heap.objs.size (.tup [x, y]) :=
      ⟨by show 2 ≤ sizeLine; decide, [u, u2], .cons ru (.cons ru2 .nil), ⟨_, hT, rfl, _, rfl⟩⟩
    have I1 : Inv X pins σ (upd H s.heap.objs.size (.tup [x, y])) { s with heap := h' } :=
      I.turnedNew (t' := s.toks) (ch := [z, TI, TO, i1, i2]) (fun c o hb q => hk c o (fun e => hb (by simp [e])) (fun e => hb (by simp [e])) (fun e => hb (by simp [e])) (fun e => hb (by simp [e])) q) hf (Nat.le_refl _) new
    refine ⟨_, rfl, go_name ⟨.ref s.heap.objs.size, _, I1, rfl, ⟨_, x, y, rfl, I.hok.fresh (Nat.le_refl _), rfl, fun l hl => by rw [I.list_inj hl hqx]; exact hx, fun l hl => by rw [I.list_inj hl hqy]; exact hy⟩, st', fun c hcm => ?_⟩⟩
    have hlt : c < s.heap.objs.size := by
      have hh := hf c hcm
      obtain ⟨hz, hTI, ⟨_, _, hTO⟩, ⟨_, e1, _⟩, ⟨_, e2, _⟩⟩ := st
      have e' : c = z ∨ c = TI ∨ c = TO ∨ c = i1 ∨ c = i2 := by simpa using hcm
      rcases e' with q | q | q | q | q
      · rw [q]
        rcases hz with r | ⟨_, _, r⟩
        · exact Heap.lt_size r
        · exact Heap.lt_size r
      · rw [q]; exact Heap.lt_size hTI
      · rw [q]; exact Heap.lt_size hTO
      · rw [q]; exact Heap.lt_size e1
      · rw [q]; exact Heap.lt_size e2
    rw [upd_ne (Nat.ne_of_lt hlt)]
    exact (hf c hcm).1
  done := by
    intro X hP hw hK hc i pins s σ H E I hf st hg
    subst hP hw hK
    obtain ⟨xs, ys, hqx, hqy, hend⟩ := hg
    obtain ⟨its, rv, p, _⟩ := I.list hqx
    obtain ⟨its2, rv2, p2, _⟩ := I.list hqy
    have l1 := rv.length
    have l2 := rv2.length
    have he : its.toArray[i]? = none ∨ its2.toArray[i]? = none := by
      rcases hend with q | q
      · exact .inl (by simp; omega)
      · exact .inr (by simp; omega)
    exact zipN_end (I.ok.hd hc) D st p.isList p2.isList he fun h' hk => ⟨rfl, I.turnedL (t' := s.toks) (ch := [z, TI, TO, i1, i2]) (fun c o hb q =>
      hk c o (fun q' => hb (by simp [q'])) (fun q' => hb (by simp [q'])) (fun q' => hb (by simp [q'])) (fun q' => hb (by simp [q'])) q) hf⟩
  self := fun A i s Q E st h => by
    rcases st.1 with q | ⟨T, f, q⟩
    · exact zip_self_any q h
    · exact zip_self_any q h
theorem pi_zipN {X : Cx} {e e2 : Expr} {ta : TA} {p pos px : Pos} {x : Str} (hg : Gl X "zip") (hm : X.mg "zip" = none) (ha : PA X [e, e2] ta)
    (hs : starEach [e, e2] X.env = (false, eval e X.env) :: starEach [e2] X.env := by rfl) (hpl : (backTo pos (starEach [e2] X.env)).any (·.1) = false := by rfl) :
    PI X (.Name x px) (.Call (.Name "zip" p) [e, e2] [] pos) (iZip X.K ta) := by
  refine ⟨fun pins s σ H R I h => ?_⟩
  refine Call_ (ld_blt I hg hm PyProof.Rows.boot_zip (PyProof.Rows.callWith_type1 (thn (ha.run pos pins s σ H _ I h) fun us s1 ⟨vs, H1, I1, r1, a, b, xs, ys, ex, hqx, hqy, q⟩ => ?_) hs hpl))
  subst ex
  obtain ⟨u1, u2, rfl, ra, rb⟩ := vals2 r1
  obtain rfl : u1 = Value.ref a := ra
  obtain rfl : u2 = Value.ref b := rb
  obtain ⟨its, rv, p1, _⟩ := I1.list hqx
  obtain ⟨its2, rv2, p2, _⟩ := I1.list hqy
  refine call_zip_2 p1.isList p2.isList fun h' hz hTI hTO h1 h2 hsz hk => wpAny_pyIter_zip hz ?_
  have I2 : Inv X pins σ H1 { s1 with heap := h' } := I1.kept (t' := s1.toks) hk
  refine ⟨s1.heap.objs.size + 4, [s1.heap.objs.size + 4, s1.heap.objs.size + 2, s1.heap.objs.size + 3, s1.heap.objs.size, s1.heap.objs.size + 1], _, _, H1, rfl, I2, turn_zipN (PySem.W.ktu_apart s1.heap.objs.size a b p1.lt p2.lt), ⟨.inl hz, hTI, ⟨_, _, hTO⟩, h1, h2⟩, fun c hcm => ?_, q⟩
  have hle : s1.heap.objs.size ≤ c := by
    have e' : c = s1.heap.objs.size + 4 ∨ c = s1.heap.objs.size + 2 ∨ c = s1.heap.objs.size + 3 ∨ c = s1.heap.objs.size ∨ c = s1.heap.objs.size + 1 := by simpa using hcm
    rcases e' with z | z | z | z | z <;> (rw [z]; first | exact Nat.le_refl _ | exact Nat.le_add_right _ _)
  exact I1.fpOk hle (I1.hok.fresh hle)
/-! ### the values of a dict with tuple keys -/
def Itdt (d : Addr) (o : Obj) (kvs : List (List L2.Key × V)) : It :=
  ⟨fun i H => H d = some (.frz o (.dT kvs)) ∧ i < kvs.length, fun i H x H' => H' = H ∧ ∃ k, kvs[i]? = some (k, x), fun i H => H d = some (.frz o (.dT kvs)) ∧ kvs.length ≤ i⟩

end PP
namespace PP
open PySem PySem.Spec PyProof.Rows L2
/-! ### a comprehension of three clauses, no tests -/
theorem turn3_0 (elt t0 i0 t1 i1 t2 i2 : Expr) (scope : Scope) (pos : Pos) (it acc : Value) (env : Env) :
    compTurn (.ListComp elt [⟨t0, i0, [], 0⟩, ⟨t1, i1, [], 0⟩, ⟨t2, i2, [], 0⟩] scope pos) 0 it acc env = (do
      standAt i0.pos
      match ← pyNext it with
      | none => pure (.done .next)
      | some v =>
        letOwnedTupleGo t0 it v
        assign t0 env v
        let mut ok := true
        for c in ([] : List Expr) do
          if ok then ok ← isTrue c env (eval c env)
        if ok then
          let x ← eval i1 env
          standAt i1.pos
          let x ← foldedSetIterable i1 env x
          let _ ← runOwn (.compStart (.ListComp elt [⟨t0, i0, [], 0⟩, ⟨t1, i1, [], 0⟩, ⟨t2, i2, [], 0⟩] scope pos) 1 (← holding [x] (pyIter x)) acc env) env
        again (.compLoop (.ListComp elt [⟨t0, i0, [], 0⟩, ⟨t1, i1, [], 0⟩, ⟨t2, i2, [], 0⟩] scope pos) 0 it acc env)) := by rfl
theorem turn3_1 (elt t0 i0 t1 i1 t2 i2 : Expr) (scope : Scope) (pos : Pos) (it acc : Value) (env : Env) :
    compTurn (.ListComp elt [⟨t0, i0, [], 0⟩, ⟨t1, i1, [], 0⟩, ⟨t2, i2, [], 0⟩] scope pos) 1 it acc env = (do
      standAt i1.pos
      match ← pyNext it with
      | none => pure (.done .next)
      | some v =>
        letOwnedTupleGo t1 it v
        assign t1 env v
        let mut ok := true
        for c in ([] : List Expr) do
          if ok then ok ← isTrue c env (eval c env)
        if ok then
          let x ← eval i2 env
          standAt i2.pos
          let x ← foldedSetIterable i2 env x
          let _ ← runOwn (.compStart (.ListComp elt [⟨t0, i0, [], 0⟩, ⟨t1, i1, [], 0⟩, ⟨t2, i2, [], 0⟩] scope pos) 2 (← holding [x] (pyIter x)) acc env) env
        again (.compLoop (.ListComp elt [⟨t0, i0, [], 0⟩, ⟨t1, i1, [], 0⟩, ⟨t2, i2, [], 0⟩] scope pos) 1 it acc env)) := by rfl
theorem turn3_2 (elt t0 i0 t1 i1 t2 i2 : Expr) (scope : Scope) (pos : Pos) (it acc : Value) (env : Env) :
    compTurn (.ListComp elt [⟨t0, i0, [], 0⟩, ⟨t1, i1, [], 0⟩, ⟨t2, i2, [], 0⟩] scope pos) 2 it acc env = (do
      standAt i2.pos
      match ← pyNext it with
      | none => pure (.done .next)
      | some v =>
        letOwnedTupleGo t2 it v
        assign t2 env v
        let mut ok := true
        for c in ([] : List Expr) do
          if ok then ok ← isTrue c env (eval c env)
        if ok then
          (do let _ ← call (.builtin "list.append") [acc, ← eval elt env])
        again (.compLoop (.ListComp elt [⟨t0, i0, [], 0⟩, ⟨t1, i1, [], 0⟩, ⟨t2, i2, [], 0⟩] scope pos) 2 it acc env)) := by rfl
section
variable {prog : Program} {w : World} {A : Around} {R : Result → Shared → Prop} {s : Shared} {elt t0 i0 t1 i1 t2 i2 : Expr} {scope : Scope} {pos : Pos} {it acc : Value} {env : Env}
theorem loop3_0 (hs : ∀ x, foldedSetIterable i1 env x = pure x) (I : Nat → Shared → Prop)
    (turn : ∀ n s, I n s → wpAny (model prog w) A (pyNext it) (fun r s₁ => match r with
      | none => R (.ok .next) s₁
      | some v => wpAny (model prog w) A (letOwnedTupleGo t0 it v) (fun _ s₁' => wpAny (model prog w) A (assign t0 env v) (fun _ s₃ =>
            wpAny (model prog w) A (eval i1 env) (fun x s₄ => wpAny (model prog w) A (pyIter x) (fun it1 s₅ =>
              codeAny (model prog w) A (.compStart (.ListComp elt [⟨t0, i0, [], 0⟩, ⟨t1, i1, [], 0⟩, ⟨t2, i2, [], 0⟩] scope pos) 1 it1 acc env) (fun r s' => match r with
                | .ok _ => ∃ m, m < n ∧ I m s'
                | .error _ => False) s₅) (notedBy (model prog w) A env fun e s' => R (.error e) s') s₄) (notedBy (model prog w) A env fun e s' => R (.error e) s') s₃) (notedBy (model prog w) A env fun e s' => R (.error e) s') s₁') (notedBy (model prog w) A env fun e s' => R (.error e) s') s₁) (notedBy (model prog w) A env fun e s' => R (.error e) s') s)
    (n : Nat) (h : I n s) :
    codeAny (model prog w) A (.compLoop (.ListComp elt [⟨t0, i0, [], 0⟩, ⟨t1, i1, [], 0⟩, ⟨t2, i2, [], 0⟩] scope pos) 0 it acc env) R s := by
  refine codeAny_loop rfl I (fun n s hI => ?_) n h
  show wpAny _ A ((compTurn (.ListComp elt [⟨t0, i0, [], 0⟩, ⟨t1, i1, [], 0⟩, ⟨t2, i2, [], 0⟩] scope pos) 0 it acc env).onRaise (fun x => do noteFrame x env; theTreesLotGoes x)) _ _ s
  refine wpAny_noted ?_
  rw [turn3_0]
  refine wpAny_bind (wpAny_standAt (wpAny_bind (wpAny_mono (turn n s hI) (fun r s₁ h₁ => ?_) fun _ _ h' => h')))
  cases r with
  | none => exact wpAny_pure h₁
  | some v =>
    refine wpAny_bind (wpAny_mono h₁ (fun _ s₁' h₁' => ?_) fun _ _ h' => h')
    refine wpAny_bind (wpAny_mono h₁' (fun _ s₂ h₃ => wpAny_bind (wpAny_tests_nil ?_)) fun _ _ h' => h')
    refine wpAny_bind (wpAny_mono h₃ (fun x s₄ h₄ => ?_) fun _ _ h' => h')
    refine wpAny_bind (wpAny_standAt (wpAny_bind (wpAny_of_eq (hs x) (wpAny_bind (wpAny_holding (wpAny_mono h₄ (fun it1 s₅ h₅ => ?_) fun _ _ h' => h'))))))
    refine wpAny_bind (wpAny_runOwn ?_)
    rw [Around.mark_none]
    refine codeAny_mono h₅ fun r s' hr => ?_
    cases r with
    | ok f =>
      first
        | exact wpAny_pure ⟨rfl, hr⟩
        | exact wpAny_bind (wpAny_pure (wpAny_pure ⟨rfl, hr⟩))
    | error e => exact hr.elim
theorem loop3_1 (hs : ∀ x, foldedSetIterable i2 env x = pure x) (I : Nat → Shared → Prop)
    (turn : ∀ n s, I n s → wpAny (model prog w) A (pyNext it) (fun r s₁ => match r with
      | none => R (.ok .next) s₁
      | some v => wpAny (model prog w) A (letOwnedTupleGo t1 it v) (fun _ s₁' => wpAny (model prog w) A (assign t1 env v) (fun _ s₃ =>
            wpAny (model prog w) A (eval i2 env) (fun x s₄ => wpAny (model prog w) A (pyIter x) (fun it1 s₅ =>
              codeAny (model prog w) A (.compStart (.ListComp elt [⟨t0, i0, [], 0⟩, ⟨t1, i1, [], 0⟩, ⟨t2, i2, [], 0⟩] scope pos) 2 it1 acc env) (fun r s' => match r with
                | .ok _ => ∃ m, m < n ∧ I m s'
                | .error _ => False) s₅) (notedBy (model prog w) A env fun e s' => R (.error e) s') s₄) (notedBy (model prog w) A env fun e s' => R (.error e) s') s₃) (notedBy (model prog w) A env fun e s' => R (.error e) s') s₁') (notedBy (model prog w) A env fun e s' => R (.error e) s') s₁) (notedBy (model prog w) A env fun e s' => R (.error e) s') s)
    (n : Nat) (h : I n s) :
    codeAny (model prog w) A (.compLoop (.ListComp elt [⟨t0, i0, [], 0⟩, ⟨t1, i1, [], 0⟩, ⟨t2, i2, [], 0⟩] scope pos) 1 it acc env) R s := by
  refine codeAny_loop rfl I (fun n s hI => ?_) n h
  show wpAny _ A ((compTurn (.ListComp elt [⟨t0, i0, [], 0⟩, ⟨t1, i1, [], 0⟩, ⟨t2, i2, [], 0⟩] scope pos) 1 it acc env).onRaise (fun x => do noteFrame x env; theTreesLotGoes x)) _ _ s
  refine wpAny_noted ?_
  rw [turn3_1]
  refine wpAny_bind (wpAny_standAt (wpAny_bind (wpAny_mono (turn n s hI) (fun r s₁ h₁ => ?_) fun _ _ h' => h')))
  cases r with
  | none => exact wpAny_pure h₁
  | some v =>
    refine wpAny_bind (wpAny_mono h₁ (fun _ s₁' h₁' => ?_) fun _ _ h' => h')
    refine wpAny_bind (wpAny_mono h₁' (fun _ s₂ h₃ => wpAny_bind (wpAny_tests_nil ?_)) fun _ _ h' => h')
    refine wpAny_bind (wpAny_mono h₃ (fun x s₄ h₄ => ?_) fun _ _ h' => h')
    refine wpAny_bind (wpAny_standAt (wpAny_bind (wpAny_of_eq (hs x) (wpAny_bind (wpAny_holding (wpAny_mono h₄ (fun it1 s₅ h₅ => ?_) fun _ _ h' => h'))))))
    refine wpAny_bind (wpAny_runOwn ?_)
    rw [Around.mark_none]
    refine codeAny_mono h₅ fun r s' hr => ?_
    cases r with
    | ok f =>
      first
        | exact wpAny_pure ⟨rfl, hr⟩
        | exact wpAny_bind (wpAny_pure (wpAny_pure ⟨rfl, hr⟩))
    | error e => exact hr.elim
theorem loop3_2 (I : Nat → Shared → Prop)
    (turn : ∀ n s, I n s → wpAny (model prog w) A (pyNext it) (fun r s₁ => match r with
      | none => R (.ok .next) s₁
      | some v => wpAny (model prog w) A (letOwnedTupleGo t2 it v) (fun _ s₁' => wpAny (model prog w) A (assign t2 env v) (fun _ s₃ =>
            wpAny (model prog w) A (eval elt env) (fun x s₄ =>
              wpAny (model prog w) A (call (.builtin "list.append") [acc, x]) (fun _ s₅ => ∃ m, m < n ∧ I m s₅) (notedBy (model prog w) A env fun e s' => R (.error e) s') s₄) (notedBy (model prog w) A env fun e s' => R (.error e) s') s₃) (notedBy (model prog w) A env fun e s' => R (.error e) s') s₁') (notedBy (model prog w) A env fun e s' => R (.error e) s') s₁) (notedBy (model prog w) A env fun e s' => R (.error e) s') s)
    (n : Nat) (h : I n s) :
    codeAny (model prog w) A (.compLoop (.ListComp elt [⟨t0, i0, [], 0⟩, ⟨t1, i1, [], 0⟩, ⟨t2, i2, [], 0⟩] scope pos) 2 it acc env) R s := by
  refine codeAny_loop rfl I (fun n s hI => ?_) n h
  show wpAny _ A ((compTurn (.ListComp elt [⟨t0, i0, [], 0⟩, ⟨t1, i1, [], 0⟩, ⟨t2, i2, [], 0⟩] scope pos) 2 it acc env).onRaise (fun x => do noteFrame x env; theTreesLotGoes x)) _ _ s
  refine wpAny_noted ?_
  rw [turn3_2]
  refine wpAny_bind (wpAny_standAt (wpAny_bind (wpAny_mono (turn n s hI) (fun r s₁ h₁ => ?_) fun _ _ h' => h')))
  cases r with
  | none => exact wpAny_pure h₁
  | some v =>
    refine wpAny_bind (wpAny_mono h₁ (fun _ s₁' h₁' => ?_) fun _ _ h' => h')
    refine wpAny_bind (wpAny_mono h₁' (fun _ s₂ h₃ => wpAny_bind (wpAny_tests_nil ?_)) fun _ _ h' => h')
    exact wpAny_bind (wpAny_bind (wpAny_mono h₃ (fun x s₄ h₄ => wpAny_bind (wpAny_mono h₄ (fun _ s₅ h₅ => wpAny_pure (wpAny_pure ⟨rfl, h₅⟩)) fun _ _ h' => h')) fun _ _ h' => h'))
theorem start3_1 (h0 : codeAny (model prog w) A (.compLoop (.ListComp elt [⟨t0, i0, [], 0⟩, ⟨t1, i1, [], 0⟩, ⟨t2, i2, [], 0⟩] scope pos) 1 it acc env) R s)
    (h : wpAny (model prog w) A (pyIter it) (fun it' s' => codeAny (model prog w) A (.compLoop (.ListComp elt [⟨t0, i0, [], 0⟩, ⟨t1, i1, [], 0⟩, ⟨t2, i2, [], 0⟩] scope pos) 1 it' acc env) R s')
      (notedBy (model prog w) A env fun x s' => R (.error x) s') s) :
    codeAny (model prog w) A (.compStart (.ListComp elt [⟨t0, i0, [], 0⟩, ⟨t1, i1, [], 0⟩, ⟨t2, i2, [], 0⟩] scope pos) 1 it acc env) R s := by
  refine codeAny_of_tree ?_
  show wpAny _ _ ((compStart (.ListComp elt [⟨t0, i0, [], 0⟩, ⟨t1, i1, [], 0⟩, ⟨t2, i2, [], 0⟩] scope pos) 1 it acc env).onRaise (fun x => do noteFrame x env; standAt theWindowsPlace)) _ _ s
  refine wpAny_notedAt ?_
  unfold compStart
  show wpAny _ _ (ask >>= _) _ _ s
  refine wpAny_bind (wpAny_askSetting (wpAny_ite ?_))
  split
  · first
      | exact wpAny_bind (wpAny_pure (wpAny_pure (And.intro rfl h0)))
      | exact wpAny_pure (And.intro rfl h0)
  · first
      | exact wpAny_bind (wpAny_rule (wpAny_bind (wpAny_standAt (wpAny_bind (wpAny_mono h (fun it' s' h' => wpAny_pure (And.intro rfl h')) fun _ _ x => x)))))
      | (refine wpAny_bind (wpAny_rule ?_); show wpAny _ _ (standAt i1.pos >>= _) _ _ s; exact wpAny_bind (wpAny_standAt (wpAny_bind (wpAny_mono h (fun it' s' h' => wpAny_pure (And.intro rfl h')) fun _ _ x => x))))
theorem start3_2 (h0 : codeAny (model prog w) A (.compLoop (.ListComp elt [⟨t0, i0, [], 0⟩, ⟨t1, i1, [], 0⟩, ⟨t2, i2, [], 0⟩] scope pos) 2 it acc env) R s)
    (h : wpAny (model prog w) A (pyIter it) (fun it' s' => codeAny (model prog w) A (.compLoop (.ListComp elt [⟨t0, i0, [], 0⟩, ⟨t1, i1, [], 0⟩, ⟨t2, i2, [], 0⟩] scope pos) 2 it' acc env) R s')
      (notedBy (model prog w) A env fun x s' => R (.error x) s') s) :
    codeAny (model prog w) A (.compStart (.ListComp elt [⟨t0, i0, [], 0⟩, ⟨t1, i1, [], 0⟩, ⟨t2, i2, [], 0⟩] scope pos) 2 it acc env) R s := by
  refine codeAny_of_tree ?_
  show wpAny _ _ ((compStart (.ListComp elt [⟨t0, i0, [], 0⟩, ⟨t1, i1, [], 0⟩, ⟨t2, i2, [], 0⟩] scope pos) 2 it acc env).onRaise (fun x => do noteFrame x env; standAt theWindowsPlace)) _ _ s
  refine wpAny_notedAt ?_
  unfold compStart
  show wpAny _ _ (ask >>= _) _ _ s
  refine wpAny_bind (wpAny_askSetting (wpAny_ite ?_))
  split
  · first
      | exact wpAny_bind (wpAny_pure (wpAny_pure (And.intro rfl h0)))
      | exact wpAny_pure (And.intro rfl h0)
  · first
      | exact wpAny_bind (wpAny_rule (wpAny_bind (wpAny_standAt (wpAny_bind (wpAny_mono h (fun it' s' h' => wpAny_pure (And.intro rfl h')) fun _ _ x => x)))))
      | (refine wpAny_bind (wpAny_rule ?_); show wpAny _ _ (standAt i2.pos >>= _) _ _ s; exact wpAny_bind (wpAny_standAt (wpAny_bind (wpAny_mono h (fun it' s' h' => wpAny_pure (And.intro rfl h')) fun _ _ x => x))))
end
section
variable {X : Cx}
/-- what the innermost loop of a three-clause comprehension asks -/
def In3 (g2 : TG) (te : TE) (vs2 : List Nat) (D : Addr) (σ3 : L2.St) (Nx1 : Hp → Prop) (J2 : It) (H4 : Hp) : Prop := ∃ W2 : Nat → Nat → Hp → Prop, (∃ m, W2 0 m H4) ∧ ∀ j k H, W2 j k H →
  (J2.stop j H ∧ Nx1 H) ∨ (J2.go j H ∧ ∃ Nx2 : Hp → Prop, (∀ H', Nx2 H' → ∃ k', k' < k ∧ W2 (j + 1) k' H') ∧ ∀ x H', J2.yld j H x H' → g2 x (wipe σ3 vs2) H' fun σ4 H5 => wipe σ4 vs2 = wipe σ3 vs2 ∧
    te σ4 H5 fun y H7 => ∃ acc, H7 D = some (.lst acc) ∧ acc.length < sizeLine ∧ Nx2 (upd H7 D (.lst (acc ++ [y]))))
def Mid3 (wi2 : TI) (g1 g2 : TG) (te : TE) (vs1 vs2 : List Nat) (D : Addr) (σ2 : L2.St) (Nx : Hp → Prop) (J1 : It) (H4 : Hp) : Prop := ∃ W1 : Nat → Nat → Hp → Prop, (∃ m, W1 0 m H4) ∧ ∀ j k H, W1 j k H →
  (J1.stop j H ∧ Nx H) ∨ (J1.go j H ∧ ∃ Nx1 : Hp → Prop, (∀ H', Nx1 H' → ∃ k', k' < k ∧ W1 (j + 1) k' H') ∧ ∀ x H', J1.yld j H x H' → g1 x (wipe σ2 vs1) H' fun σ3 H5 => wipe σ3 vs1 = wipe σ2 vs1 ∧
    wi2 σ3 H5 (In3 g2 te vs2 D σ3 Nx1))
def Out3 (wi1 wi2 : TI) (g g1 g2 : TG) (te : TE) (vs vs1 vs2 : List Nat) (σ : L2.St) (Q : VK) (J : It) (H1 : Hp) : Prop := ∀ D, H1 D = none → ∃ W : Nat → Nat → Hp → Prop, (∃ m, W 0 m (upd H1 D (.lst []))) ∧ ∀ i m H, W i m H →
  (J.stop i H ∧ Q (.ref D) H) ∨ (J.go i H ∧ ∃ Nx : Hp → Prop, (∀ H', Nx H' → ∃ m', m' < m ∧ W (i + 1) m' H') ∧ ∀ x H', J.yld i H x H' → g x (wipe σ vs) H' fun σ2 H2 => wipe σ2 vs = wipe σ vs ∧
    wi1 σ2 H2 (Mid3 wi2 g1 g2 te vs1 vs2 D σ2 Nx))
def tLc3 (wi : TI) (g : TG) (wi1 : TI) (g1 : TG) (wi2 : TI) (g2 : TG) (te : TE) (vs vs1 vs2 : List Nat) : TE := fun σ H Q => wi σ H (Out3 wi1 wi2 g g1 g2 te vs vs1 vs2 σ Q)
theorem lc3_core {pins : List (Addr × Obj)} {s : Shared} {σ : L2.St} {H : Hp} {Q : VK} {elt t0 i0 t1 i1 t2 i2 : Expr} {scope : Scope} {own : List (Str × Nat)} {vs1 vs2 : List Nat} {pos pos' : Pos} {wi wi1 wi2 : TI} {g g1 g2 : TG} {te : TE} {use : Option (Value → Sem Unit)} {Qf : Value → Shared → Prop}
    (hc : X.calm = true) (hN : X.N.Nodup) (I : Inv X pins σ H s) (hi : PI X t0 i0 wi) (ok : BlkOk X.N X.env.scope scope own) (hv : ∀ i ∈ vs1, i ∈ own.map (·.2)) (hv2 : ∀ i ∈ vs2, i ∈ vs1)
    (hg : ∀ (s : Shared) (H : Hp) (C : Addr) (cl : List (Str × Addr)) (fp : List Addr), PG (X.blk s H scope (compEnvC scope cl C X.env) fp) t0 g) (he : ∀ (s : Shared) (H : Hp) (C : Addr) (cl : List (Str × Addr)) (fp : List Addr), PE (X.blk s H scope (compEnvC scope cl C X.env) fp) elt te) (hs : ∀ x, foldedSetIterable i0 X.env x = pure x)
    (hi1 : ∀ (s : Shared) (H : Hp) (C : Addr) (cl : List (Str × Addr)) (fp : List Addr), PI (X.blk s H scope (compEnvC scope cl C X.env) fp) t1 i1 wi1) (hg1 : ∀ (s : Shared) (H : Hp) (C : Addr) (cl : List (Str × Addr)) (fp : List Addr), PG (X.blk s H scope (compEnvC scope cl C X.env) fp) t1 g1) (hs1 : ∀ env x, foldedSetIterable i1 env x = pure x)
    (hi2 : ∀ (s : Shared) (H : Hp) (C : Addr) (cl : List (Str × Addr)) (fp : List Addr), PI (X.blk s H scope (compEnvC scope cl C X.env) fp) t2 i2 wi2) (hg2 : ∀ (s : Shared) (H : Hp) (C : Addr) (cl : List (Str × Addr)) (fp : List Addr), PG (X.blk s H scope (compEnvC scope cl C X.env) fp) t2 g2) (hs2 : ∀ env x, foldedSetIterable i2 env x = pure x)
    (h : tLc3 wi g wi1 g1 wi2 g2 te (own.map (·.2)) vs1 vs2 σ H Q)
    (hRR : ∀ D C s' m H', Inv X pins σ H' s' → Q (.ref D) H' → s'.heap.Ns C m → FpOk X pins H' C → compPost (model X.prog X.w) X.A X.xe use Qf (.ref D) C (.ok .next) s') :
    wpAny (model X.prog X.w) X.A (comprehension (.ListComp elt [⟨t0, i0, [], 0⟩, ⟨t1, i1, [], 0⟩, ⟨t2, i2, [], 0⟩] scope pos) scope X.env pos' (newList []) false (eval i0 X.env) use) Qf X.xe s := by
  have hfree : ∀ y ∈ scope.names, y.2 = .free → ∃ c, X.env.cells.lookup y.1 = some c := fun y hy e => by
    rcases ok.free y hy e with k | k
    · exact I.ok.has _ (.inl k)
    · exact I.ok.has _ (.inr k)
  refine wpAny_comprehension_free (use := use) rfl hs (closure_ok hfree) ok.kind (fun y hy e => by rw [ok.uniq y hy, e])
    (thn (hi.run pins s σ H _ I h) fun xv s1 hx => thn hx fun itv s2 h2 => ?_)
  obtain ⟨it, fp, tn, J, H2, e, I2, T, st2, f2, q⟩ := h2
  subst e
  refine wpAny_newObj_type (newEnv_comp ?_) (by show 0 ≤ sizeLine; decide)
  generalize hD : s2.heap.objs.size = D
  have hDn : H2 D = none := I2.hok.fresh (Nat.le_of_eq hD)
  obtain ⟨W, ⟨m0, w0⟩, turn⟩ := q D hDn
  generalize hs3 : ({ s2 with heap := s2.heap.push { cls := .type "list", data := .seq ([] : List Value).toArray } } : Shared) = s3
  have I3 : Inv X pins σ (upd H2 D (.lst [])) s3 := by
    rw [← hs3]
    refine I2.laid (t' := s2.toks) (fun b o e => Heap.get?_push_of_some _ e) (Nat.le_of_eq hD) ⟨Nat.zero_le _, [], 0, .nil, ?_⟩
    rw [← hD]
    exact Heap.get?_push_size _ rfl
  have h3 : s3.heap = s2.heap.push { cls := .type "list", data := .seq ([] : List Value).toArray } := by rw [← hs3]
  have sz : ∀ b ∈ fp, b < s2.heap.objs.size := fun b hb => by
    obtain ⟨o, e, _⟩ := T.obj _ _ st2 b hb
    exact Heap.lt_size e
  have f3 : ∀ b ∈ fp, FpOk X pins (upd H2 D (.lst [])) b ∧ b < s3.heap.objs.size := fun b hb => by
    have hlt := sz b hb
    refine ⟨⟨?_, (f2 b hb).2⟩, by rw [h3, Heap.size_push]; exact Nat.lt_succ_of_lt hlt⟩
    rw [upd_ne (by rw [← hD]; exact Nat.ne_of_lt hlt)]
    exact (f2 b hb).1
  have st3 : tn 0 s3.heap := T.keep _ _ _ st2 fun b _ o e => by rw [h3]; exact Heap.get?_push_of_some _ e
  have I4 := block_start I3 ok hN f3
  have pg := hg s3 (upd H2 D (.lst [])) s3.heap.objs.size (cellsFrom (s3.heap.objs.size + 1) scope.names (cloFrom X.env.cells scope.names [])) fp
  have pe := he s3 (upd H2 D (.lst [])) s3.heap.objs.size (cellsFrom (s3.heap.objs.size + 1) scope.names (cloFrom X.env.cells scope.names [])) fp
  have pi1 := hi1 s3 (upd H2 D (.lst [])) s3.heap.objs.size (cellsFrom (s3.heap.objs.size + 1) scope.names (cloFrom X.env.cells scope.names [])) fp
  have pg1 := hg1 s3 (upd H2 D (.lst [])) s3.heap.objs.size (cellsFrom (s3.heap.objs.size + 1) scope.names (cloFrom X.env.cells scope.names [])) fp
  have pi2 := hi2 s3 (upd H2 D (.lst [])) s3.heap.objs.size (cellsFrom (s3.heap.objs.size + 1) scope.names (cloFrom X.env.cells scope.names [])) fp
  have pg2 := hg2 s3 (upd H2 D (.lst [])) s3.heap.objs.size (cellsFrom (s3.heap.objs.size + 1) scope.names (cloFrom X.env.cells scope.names [])) fp
  show codeAny _ _ (.compStart (.ListComp elt [⟨t0, i0, [], 0⟩, ⟨t1, i1, [], 0⟩, ⟨t2, i2, [], 0⟩] scope pos) 0 (.ref it) (.ref D) (compEnvC scope (cellsFrom (s3.heap.objs.size + 1) scope.names (cloFrom X.env.cells scope.names [])) s3.heap.objs.size X.env)) (compPost (model X.prog X.w) X.A X.xe use Qf (.ref D) s3.heap.objs.size) { s3 with heap := pushCells (s3.heap.push { cls := .type "dict", data := .dict #[] }) scope.names }
  have nfp : ∀ b ∈ fp, (upd H2 D (.lst [])) b = none := fun b hb => (f3 b hb).1.1
  generalize hce : compEnvC scope (cellsFrom (s3.heap.objs.size + 1) scope.names (cloFrom X.env.cells scope.names [])) s3.heap.objs.size X.env = ce at I4 pg pe pi1 pg1 pi2 pg2 ⊢
  have cL : ce.locals = s3.heap.objs.size := by subst hce; rfl
  generalize hH3 : upd H2 D (.lst []) = H3 at I3 I4 pg pe pi1 pg1 pi2 pg2 w0 nfp f3
  generalize hs4 : ({ s3 with heap := pushCells (s3.heap.push { cls := .type "dict", data := .dict #[] }) scope.names } : Shared) = s4 at I4 ⊢
  have st4 : tn 0 s4.heap := T.keep _ _ _ st3 fun b _ o e => by rw [← hs4]; exact pushCells_keeps _ _ _ _ (Heap.get?_push_of_some _ e)
  have stat : ∀ {σ' : L2.St} {H' : Hp} {s' : Shared}, Inv (X.blk s3 H3 scope ce fp) [] σ' H' s' → (∀ b ∈ fp, H' b = none) → ∀ b ∈ fp, FpOk (X.blk s3 H3 scope ce fp) [] H' b := fun {σ' H' s'} I' hn b hb =>
    ⟨hn b hb, (I'.ok.exf b hb).1, I'.ok.exfs b hb, .inl hb, fun x c e => (I'.ok.exf b hb).2 x c e, fun p hp => absurd (show p ∈ ([] : List (Addr × Obj)) ++ [] from hp) (by simp)⟩
  have loop : codeAny (model X.prog X.w) X.A (.compLoop (.ListComp elt [⟨t0, i0, [], 0⟩, ⟨t1, i1, [], 0⟩, ⟨t2, i2, [], 0⟩] scope pos) 0 (.ref it) (.ref D) ce) (compPost (model X.prog X.w) X.A X.xe use Qf (.ref D) s3.heap.objs.size) s4 := by
    refine loop3_0 (hs1 ce) (fun n s' => ∃ i H', Inv (X.blk s3 H3 scope ce fp) [] (wipe σ (own.map (·.2))) H' s' ∧ tn i s'.heap ∧ (∀ b ∈ fp, H' b = none) ∧ W i n H') ?_ m0 ⟨0, H3, I4, st4, nfp, w0⟩
    rintro n s5 ⟨i, H5, I5, st5, n5, w5⟩
    rcases turn i n H5 w5 with ⟨stop, qq⟩ | ⟨go, Nx, hNx, step⟩
    · have td := T.done (X.blk s3 H3 scope ce fp) rfl rfl rfl hc i [] s5 _ H5 (fun _ _ => False) I5 (stat I5 n5) st5 stop
      refine thnF td fun r s6 ⟨hr, I6⟩ => ?_
      subst hr
      have I7 : Inv X pins σ H5 s6 := I3.call' (ch := fp) I6.os I6.base I6.hok I6.bare fun b hb => ⟨(f3 b hb).1.2.2.2.1, (f3 b hb).1.2.1, (f3 b hb).1.2.2.2.2.1, (f3 b hb).1.2.2.2.2.2⟩
      have nC : H5 s3.heap.objs.size = none := by
        have z : H5 ce.locals = none := I6.free
        rw [cL] at z
        exact z
      obtain ⟨m, hn, _⟩ := I6.loc
      have hn : s6.heap.Ns ce.locals m := hn
      rw [cL] at hn
      exact hRR D s3.heap.objs.size s6 m H5 I7 qq hn (I3.fpOk (Nat.le_refl _) nC)
    · have ti := T.item (X.blk s3 H3 scope ce fp) rfl rfl rfl hc i [] s5 _ H5 (fun _ _ => False) I5 (stat I5 n5) st5 go
      refine thnF ti fun r s6 ⟨u, hr, h6⟩ => ?_
      subst hr
      refine thnF h6 fun _ s7 ⟨x, H7, I7, r7, y7, st7, n7⟩ => ?_
      have I7' := I7.pinned (stat I7 n7) (T.obj _ _ st7)
      refine thnF (pg.run _ s7 _ H7 x u _ I7' r7 (step x H7 y7)) fun _ s9 ⟨σ8, H9, I9, hw8, q9⟩ => ?_
      have fin : ∀ {σ9 : L2.St} {s' : Shared} {H' : Hp}, Inv (X.blk s3 H3 scope ce fp) ([] ++ pinsAt fp s7.heap) σ9 H' s' → (wipe σ (own.map (·.2))).length = σ9.length → (∀ (j : Nat) v, (wipe σ (own.map (·.2)))[j]? = some (some v) → σ9[j]? = some (some v)) → Nx H' →
          ∃ m, m < n ∧ ∃ i H', Inv (X.blk s3 H3 scope ce fp) [] (wipe σ (own.map (·.2))) H' s' ∧ tn i s'.heap ∧ (∀ b ∈ fp, H' b = none) ∧ W i m H' := fun {σ9 s' H'} I' hl hk nx => by
        obtain ⟨m', hm, w'⟩ := hNx H' nx
        have pin' : ∀ b ∈ fp, ∀ o, s7.heap.get? b = some o → s'.heap.get? b = some o ∧ H' b = none := fun b hb o e =>
          let z := I'.pin (b, o) (List.mem_append_right _ (List.mem_append_right _ (mem_pinsAt hb e)))
          ⟨z.1, z.2.1⟩
        refine ⟨m', hm, i + 1, H', (I'.unpinned (pins := [])).weak hl hk, T.keep _ _ _ st7 fun b hb o e => (pin' b hb o e).1, fun b hb => ?_, w'⟩
        obtain ⟨o, e, _⟩ := T.obj _ _ st7 b hb
        exact (pin' b hb o e).2
      have hl8 : (wipe σ (own.map (·.2))).length = σ8.length := by rw [← hw8, wipe_length]
      have hk9 : ∀ (j : Nat) v, (wipe σ (own.map (·.2)))[j]? = some (some v) → (wipe σ8 vs1)[j]? = some (some v) := fun j v e => by
        rw [← hw8] at e
        obtain ⟨e1, e2⟩ := wipe_some e
        rw [wipe_out fun z => e2 (hv j z)]
        exact e1
      refine thnF (pi1.run _ s9 σ8 H9 _ I9 q9) fun xv s10 hx => thnF hx fun itv s11 h11 => ?_
      obtain ⟨it1, fp1, tn1, J1, H11, e1, I11, T1, st11, f11, W1, ⟨m1, w1⟩, turn1⟩ := h11
      subst e1
      have stat1 : ∀ {H' : Hp}, (∀ b ∈ fp1, H' b = none) → ∀ b ∈ fp1, FpOk (X.blk s3 H3 scope ce fp) ([] ++ pinsAt fp s7.heap) H' b := fun hn b hb => ⟨hn b hb, (f11 b hb).2⟩
      have loop1 : codeAny (model X.prog X.w) X.A (.compLoop (.ListComp elt [⟨t0, i0, [], 0⟩, ⟨t1, i1, [], 0⟩, ⟨t2, i2, [], 0⟩] scope pos) 1 (.ref it1) (.ref D) ce)
          (fun r s' => match r with
            | .ok _ => ∃ m, m < n ∧ ∃ i H', Inv (X.blk s3 H3 scope ce fp) [] (wipe σ (own.map (·.2))) H' s' ∧ tn i s'.heap ∧ (∀ b ∈ fp, H' b = none) ∧ W i m H'
            | .error _ => False) s11 := by
        refine loop3_1 (hs2 ce) (fun k s' => ∃ j H', Inv (X.blk s3 H3 scope ce fp) ([] ++ pinsAt fp s7.heap) (wipe σ8 vs1) H' s' ∧ tn1 j s'.heap ∧ (∀ b ∈ fp1, H' b = none) ∧ W1 j k H') ?_ m1 ⟨0, H11, I11.weak (wipe_length _ _) (fun j v e => (wipe_some e).1), st11, fun b hb => (f11 b hb).1, w1⟩
        rintro k s12 ⟨j, H12, I12, st12, n12, w12⟩
        rcases turn1 j k H12 w12 with ⟨stop1, nx1⟩ | ⟨go1, Nx1, hNx1, step1⟩
        · refine thnF (T1.done (X.blk s3 H3 scope ce fp) rfl rfl rfl hc j _ s12 (wipe σ8 vs1) H12 (fun _ _ => False) I12 (stat1 n12) st12 stop1) fun r s13 ⟨hr, I13⟩ => ?_
          subst hr
          exact fin I13 (hl8.trans (wipe_length σ8 vs1).symm) hk9 nx1
        · refine thnF (T1.item (X.blk s3 H3 scope ce fp) rfl rfl rfl hc j _ s12 (wipe σ8 vs1) H12 (fun _ _ => False) I12 (stat1 n12) st12 go1) fun r s13 ⟨u1, hr, h13⟩ => ?_
          subst hr
          refine thnF h13 fun _ s14 ⟨x1, H14, I14, r14, y14, st14, n14⟩ => ?_
          have I14' := I14.pinned (stat1 n14) (T1.obj _ _ st14)
          refine thnF (pg1.run _ s14 (wipe σ8 vs1) H14 x1 u1 _ I14' r14 (step1 x1 H14 y14)) fun _ s16 ⟨σ15, H16, I16, hw15, q16⟩ => ?_
          have fin1 : ∀ {σ9 : L2.St} {s' : Shared} {H' : Hp}, Inv (X.blk s3 H3 scope ce fp) (([] ++ pinsAt fp s7.heap) ++ pinsAt fp1 s14.heap) σ9 H' s' → (wipe σ8 vs1).length = σ9.length → (∀ (j : Nat) v, (wipe σ8 vs1)[j]? = some (some v) → σ9[j]? = some (some v)) → Nx1 H' →
              ∃ m, m < k ∧ ∃ j H', Inv (X.blk s3 H3 scope ce fp) ([] ++ pinsAt fp s7.heap) (wipe σ8 vs1) H' s' ∧ tn1 j s'.heap ∧ (∀ b ∈ fp1, H' b = none) ∧ W1 j m H' := fun {σ9 s' H'} I' hl hk nx => by
            obtain ⟨m', hm, w'⟩ := hNx1 H' nx
            have pin' : ∀ b ∈ fp1, ∀ o, s14.heap.get? b = some o → s'.heap.get? b = some o ∧ H' b = none := fun b hb o e =>
              let z := I'.pin (b, o) (List.mem_append_right _ (List.mem_append_right _ (mem_pinsAt hb e)))
              ⟨z.1, z.2.1⟩
            refine ⟨m', hm, j + 1, H', I'.unpinned.weak hl hk, T1.keep _ _ _ st14 fun b hb o e => (pin' b hb o e).1, fun b hb => ?_, w'⟩
            obtain ⟨o, e, _⟩ := T1.obj _ _ st14 b hb
            exact (pin' b hb o e).2
          have hl15 : (wipe σ8 vs1).length = σ15.length := by rw [← hw15, wipe_length]
          have hk15 : ∀ (j : Nat) v, (wipe σ8 vs1)[j]? = some (some v) → (wipe σ15 vs2)[j]? = some (some v) := fun j v e => by
            rw [← hw15] at e
            obtain ⟨e1, e2⟩ := wipe_some e
            rw [wipe_out fun z => e2 (hv2 j z)]
            exact e1
          refine thnF (pi2.run _ s16 σ15 H16 _ I16 q16) fun xv s20 hx => thnF hx fun itv s21 h21 => ?_
          obtain ⟨it2, fp2, tn2, J2, H21, e2, I21, T2, st21, f21, W2, ⟨m2, w2⟩, turn2⟩ := h21
          subst e2
          have stat2 : ∀ {H' : Hp}, (∀ b ∈ fp2, H' b = none) → ∀ b ∈ fp2, FpOk (X.blk s3 H3 scope ce fp) (([] ++ pinsAt fp s7.heap) ++ pinsAt fp1 s14.heap) H' b := fun hn b hb => ⟨hn b hb, (f21 b hb).2⟩
          have loop2 : codeAny (model X.prog X.w) X.A (.compLoop (.ListComp elt [⟨t0, i0, [], 0⟩, ⟨t1, i1, [], 0⟩, ⟨t2, i2, [], 0⟩] scope pos) 2 (.ref it2) (.ref D) ce)
              (fun r s' => match r with
                | .ok _ => ∃ m, m < k ∧ ∃ j H', Inv (X.blk s3 H3 scope ce fp) ([] ++ pinsAt fp s7.heap) (wipe σ8 vs1) H' s' ∧ tn1 j s'.heap ∧ (∀ b ∈ fp1, H' b = none) ∧ W1 j m H'
                | .error _ => False) s21 := by
            refine loop3_2 (fun k2 s' => ∃ j2 H', Inv (X.blk s3 H3 scope ce fp) (([] ++ pinsAt fp s7.heap) ++ pinsAt fp1 s14.heap) (wipe σ15 vs2) H' s' ∧ tn2 j2 s'.heap ∧ (∀ b ∈ fp2, H' b = none) ∧ W2 j2 k2 H') ?_ m2 ⟨0, H21, I21.weak (wipe_length _ _) (fun j v e => (wipe_some e).1), st21, fun b hb => (f21 b hb).1, w2⟩
            rintro k2 s22 ⟨j2, H22, I22, st22, n22, w22⟩
            rcases turn2 j2 k2 H22 w22 with ⟨stop2, nx2⟩ | ⟨go2, Nx2, hNx2, step2⟩
            · refine thnF (T2.done (X.blk s3 H3 scope ce fp) rfl rfl rfl hc j2 _ s22 (wipe σ15 vs2) H22 (fun _ _ => False) I22 (stat2 n22) st22 stop2) fun r s23 ⟨hr, I23⟩ => ?_
              subst hr
              exact fin1 I23 (hl15.trans (wipe_length σ15 vs2).symm) hk15 nx2
            · refine thnF (T2.item (X.blk s3 H3 scope ce fp) rfl rfl rfl hc j2 _ s22 (wipe σ15 vs2) H22 (fun _ _ => False) I22 (stat2 n22) st22 go2) fun r s23 ⟨u2, hr, h23⟩ => ?_
              subst hr
              refine thnF h23 fun _ s24 ⟨x2, H24, I24, r24, y24, st24, n24⟩ => ?_
              have I24' := I24.pinned (stat2 n24) (T2.obj _ _ st24)
              refine thnF (pg2.run _ s24 (wipe σ15 vs2) H24 x2 u2 _ I24' r24 (step2 x2 H24 y24)) fun _ s26 ⟨σ25, H26, I26, hw25, q26⟩ => ?_
              have fin2 : ∀ {s' : Shared} {H' : Hp}, Inv (X.blk s3 H3 scope ce fp) ((([] ++ pinsAt fp s7.heap) ++ pinsAt fp1 s14.heap) ++ pinsAt fp2 s24.heap) σ25 H' s' → Nx2 H' → ∃ m, m < k2 ∧ ∃ j H', Inv (X.blk s3 H3 scope ce fp) (([] ++ pinsAt fp s7.heap) ++ pinsAt fp1 s14.heap) (wipe σ15 vs2) H' s' ∧ tn2 j s'.heap ∧ (∀ b ∈ fp2, H' b = none) ∧ W2 j m H' := fun {s' H'} I' nx => by
                obtain ⟨m', hm, w'⟩ := hNx2 H' nx
                have pin' : ∀ b ∈ fp2, ∀ o, s24.heap.get? b = some o → s'.heap.get? b = some o ∧ H' b = none := fun b hb o e =>
                  let z := I'.pin (b, o) (List.mem_append_right _ (List.mem_append_right _ (mem_pinsAt hb e)))
                  ⟨z.1, z.2.1⟩
                refine ⟨m', hm, j2 + 1, H', I'.unpinned.weak (by rw [← hw25, wipe_length]) (fun j v e => by rw [← hw25] at e; exact (wipe_some e).1), T2.keep _ _ _ st24 fun b hb o e => (pin' b hb o e).1, fun b hb => ?_, w'⟩
                obtain ⟨o, e, _⟩ := T2.obj _ _ st24 b hb
                exact (pin' b hb o e).2
              refine thnF (pe.run _ s26 σ25 H26 _ I26 q26) fun z s27 ⟨yv, H27, I27, r27, acc, hD27, hz27, nx⟩ => ?_
              exact app_ok (X := X.blk s3 H3 scope ce fp) I27 hD27 hz27 r27 fun s28 I28 => fin2 I28 nx
          exact start3_2 loop2 (T2.self X.A 0 _ _ _ st21 loop2)
      exact start3_1 loop1 (T1.self X.A 0 _ _ _ st11 loop1)
  exact codeAny_compStart_list loop (T.self X.A 0 _ _ _ st4 loop)
theorem pe_lc3 {elt t0 i0 t1 i1 t2 i2 : Expr} {scope : Scope} {own : List (Str × Nat)} {vs1 vs2 : List Nat} {pos : Pos} {wi wi1 wi2 : TI} {g g1 g2 : TG} {te : TE} (hc : X.calm = true) (hN : X.N.Nodup) (hi : PI X t0 i0 wi) (ok : BlkOk X.N X.env.scope scope own) (hv : ∀ i ∈ vs1, i ∈ own.map (·.2)) (hv2 : ∀ i ∈ vs2, i ∈ vs1)
    (hg : ∀ (s : Shared) (H : Hp) (C : Addr) (cl : List (Str × Addr)) (fp : List Addr), PG (X.blk s H scope (compEnvC scope cl C X.env) fp) t0 g) (hi1 : ∀ (s : Shared) (H : Hp) (C : Addr) (cl : List (Str × Addr)) (fp : List Addr), PI (X.blk s H scope (compEnvC scope cl C X.env) fp) t1 i1 wi1) (hg1 : ∀ (s : Shared) (H : Hp) (C : Addr) (cl : List (Str × Addr)) (fp : List Addr), PG (X.blk s H scope (compEnvC scope cl C X.env) fp) t1 g1) (hi2 : ∀ (s : Shared) (H : Hp) (C : Addr) (cl : List (Str × Addr)) (fp : List Addr), PI (X.blk s H scope (compEnvC scope cl C X.env) fp) t2 i2 wi2) (hg2 : ∀ (s : Shared) (H : Hp) (C : Addr) (cl : List (Str × Addr)) (fp : List Addr), PG (X.blk s H scope (compEnvC scope cl C X.env) fp) t2 g2) (he : ∀ (s : Shared) (H : Hp) (C : Addr) (cl : List (Str × Addr)) (fp : List Addr), PE (X.blk s H scope (compEnvC scope cl C X.env) fp) elt te)
    (hs : ∀ x, foldedSetIterable i0 X.env x = pure x := by intro _; rfl) (hs1 : ∀ env x, foldedSetIterable i1 env x = pure x := by intro _ _; rfl) (hs2 : ∀ env x, foldedSetIterable i2 env x = pure x := by intro _ _; rfl) :
    PE X (.ListComp elt [⟨t0, i0, [], 0⟩, ⟨t1, i1, [], 0⟩, ⟨t2, i2, [], 0⟩] scope pos) (tLc3 wi g wi1 g1 wi2 g2 te (own.map (·.2)) vs1 vs2) := by
  refine ⟨fun pins s σ H Q I h => ?_⟩
  rw [eval_ListComp]
  refine lc3_core hc hN I hi ok hv hv2 hg he hs hi1 hg1 hs1 hi2 hg2 hs2 h fun D C s' m H' I' q hn f => ⟨m, hn, fun h'' sb => ?_⟩
  obtain ⟨f0, f1, f2, f3, f4, f5⟩ := f
  exact ⟨.ref D, H', I'.turned (t' := s'.toks) (fun b o hb e => (sb.2 b hb).trans e) f0 f1 f3 f4 f5, rfl, q⟩
end

end PP
namespace PP
open PySem PySem.Spec PyProof.Rows L2
/-! ### the values of a locked dict with tuple keys -/
section
variable {X : Cx} {pins : List (Addr × Obj)} {σ : L2.St} {H : Hp} {s : Shared} {d : Addr} {o : Obj}
theorem frzTV {kvs : List (List L2.Key × V)} (I : Inv X pins σ H s) (h : H d = some (.frz o (.dT kvs))) :
    (d == sysModules) = false ∧ s.heap.get? d = some o ∧ o.ExactDict ∧ ∃ (es : Array DictEntry) (ep : Nat), o.data = .dict es ep ∧ es.size = kvs.length ∧
      ∀ (i : Nat) (k : List L2.Key) (v : V), kvs[i]? = some (k, v) → ∃ en : DictEntry, es[i]? = some en ∧ RelV v en.val := by
  obtain ⟨hd, z, hs, xs, pr, o', es, ep, ho, hx, hdt, he, _⟩ := I.hok d _ h
  rw [hd] at ho
  cases ho
  refine ⟨hs, hd, hx, es, ep, hdt, ?_, fun i k v e => ?_⟩
  · have l1 : es.size = xs.length := size_of_entries he
    have l2 : kvs.length = xs.length := Paired.length pr
    omega
  · obtain ⟨b, hb, e1, e2, e3⟩ := paired_get pr e
    have q := entry_at he i
    rw [hb] at q
    exact ⟨_, q, e3⟩
end
section
variable {P : Program} {w : World} {K : PySem.W.Frag} {tg : Expr} {d : Addr} {o : Obj} {es : Array DictEntry} {ep : Nat}
theorem turn_valsT {kvs : List (List L2.Key × V)} (it : Addr) (hod : o.data = .dict es ep) (hn : es.size = kvs.length) : Turn P w K tg (Itdt d o kvs) [it] it (fun i h => h.IsValIter it d i es.size ep) where
  mem := by simp
  obj := fun i h st b hb => by
    have e : b = it := by simpa using hb
    subst e
    obtain ⟨oi, e, c, dd⟩ := st
    exact ⟨oi, e, fun v z => by rw [dd] at z; cases z⟩
  keep := fun i h h' st k => st.at fun oi e => k it (by simp) oi e
  item := by
    intro X hP hw hK hc i pins s σ H E I hf st hg
    subst hP hw hK
    obtain ⟨hd, hi⟩ := hg
    obtain ⟨f0, f1, f2, f3, f4, f5⟩ := hf it (by simp)
    obtain ⟨hs, hgd, hx, es', ep', hdt, hsz, ent⟩ := frzTV I hd
    obtain ⟨rfl, rfl⟩ := dict_ep hod hdt
    obtain ⟨⟨k, v⟩, hkv⟩ : ∃ p, kvs[i]? = some p := ⟨kvs[i], List.getElem?_eq_getElem hi⟩
    obtain ⟨en, hen, hv⟩ := ent i k v hkv
    have hlt : i < es'.size := by omega
    refine wpAny_pyNext_values_item_raw st ⟨o, hgd, hx, hdt⟩ hlt fun h' st' sb => ?_
    have I1 : Inv X pins σ H { s with heap := h' } := I.turned (t' := s.toks) (fun b ob hb e => (sb.2 b hb).trans e) f0 f1 f3 f4 f5
    obtain ⟨oi, e, c, dd⟩ := id st'
    have een : es'[i] = en := by
      rw [Array.getElem?_eq_getElem hlt] at hen
      exact Option.some.inj hen
    rw [een]
    exact ⟨en.val, rfl, go_of (s := { s with heap := h' }) e c dd (by decide) ⟨v, H, I1, hv, ⟨rfl, k, hkv⟩, st', fun b hb => (hf b hb).1⟩⟩
  done := by
    intro X hP hw hK hc i pins s σ H E I hf st hg
    subst hP hw hK
    obtain ⟨hd, hi⟩ := hg
    obtain ⟨f0, f1, f2, f3, f4, f5⟩ := hf it (by simp)
    obtain ⟨hs, hgd, hx, es', ep', hdt, hsz, ent⟩ := frzTV I hd
    obtain ⟨rfl, rfl⟩ := dict_ep hod hdt
    exact wpAny_pyNext_values_end_raw (I.ok.hd hc) st ⟨o, hgd, hx, hdt⟩ (by omega) fun h' eb => ⟨rfl, I.turned (t' := s.toks) (fun b ob hb e => eb b ob hb e) f0 f1 f3 f4 f5⟩
  self := fun A i s Q E st h => wpAny_pyIter_valiter st h
end
def iValsT (td : TE) : TI := fun σ H R => td σ H fun x H1 => ∃ d o kvs, x = .ref d ∧ H1 d = some (.frz o (.dT kvs)) ∧ R (Itdt d o kvs) H1
theorem pi_valuesT {X : Cx} {tg e : Expr} {td : TE} {apos cpos : Pos} (he : PE X e td) (hbase : attributeBase e "values" X.env (eval e X.env) = eval e X.env := by rfl) (hline : (apos.endLine == cpos.line) = true := by rfl) : PI X tg (.Call (.Attribute e "values" apos) [] [] cpos) (iValsT td) := by
  refine ⟨fun pins s σ H R I h => ?_⟩
  refine wpAny_Call_method (T := "dict") (id := "dict.values") hbase rfl hline F.plainAttrs_dict F.slot_dict_values F.type_dict_values (thn (he.run pins s σ H _ I h) fun u s1 ⟨x, H1, I1, rx, d, o, kvs, ex, hd, q⟩ => ?_)
  subst ex
  obtain rfl : u = Value.ref d := rx
  obtain ⟨hs, hgd, hx, es, ep, hdt, hsz, ent⟩ := frzTV I1 hd
  have raw : s1.heap.DictRaw d es ep := ⟨o, hgd, hx, hdt⟩
  have ty : s1.TypeIs (.ref d) "dict" := ⟨o, hgd, hx.1⟩
  refine ⟨ty, fun b q => by cases q; exact ⟨o, hgd, hx.2.1⟩, ?_⟩
  have I2 : Inv X pins σ H1 { s1 with heap := s1.heap.push { cls := .type "dict_values", data := .fields #[.ref d] } } := I1.kept (t' := s1.toks) fun b ob q => Heap.get?_push_of_some _ q
  have fin : wpAny (model X.prog X.w) X.A (pyIter (.ref s1.heap.objs.size)) (PIE X pins σ tg R) X.xe { s1 with heap := s1.heap.push { cls := .type "dict_values", data := .fields #[.ref d] } } := by
    refine wpAny_pyIter_values_raw (d := d) (es := es) (ep := ep) ⟨_, Heap.get?_push_size _ rfl, rfl, rfl⟩ (raw.at fun o e => Heap.get?_push_of_some _ e) (pi_one (tk := s1.toks) I2 _ (turn_valsT _ hdt hsz) ⟨_, Heap.get?_push_size _ rfl, rfl, rfl⟩ q)
  show wpAny _ _ (callWith cpos (.builtin "dict.values") [.ref d] [] []) _ X.xe s1
  exact method_meetsIn F.slot_dict_values F.entry_dict_values rfl (PySem.evalArgs_none ⟨rfl, ty, F.args_dict_values_1 _, _, meets_dict_values_raw d hs, ⟨es, ep, raw⟩, fin⟩)

end PP
namespace PP
open PySem PySem.Spec PyProof.Rows L2
/-! ### the free names -/
theorem fre_len : ("len" : Str) ∈ fre := by decide +kernel
theorem fre_range : ("range" : Str) ∈ fre := by decide +kernel
theorem fre_min : ("min" : Str) ∈ fre := by decide +kernel
theorem fre_max : ("max" : Str) ∈ fre := by decide +kernel
theorem fre_abs : ("abs" : Str) ∈ fre := by decide +kernel
theorem fre_sum : ("sum" : Str) ∈ fre := by decide +kernel
theorem fre_int : ("int" : Str) ∈ fre := by decide +kernel
theorem fre_bool : ("bool" : Str) ∈ fre := by decide +kernel
theorem fre_isinstance : ("isinstance" : Str) ∈ fre := by decide +kernel
theorem fre_enumerate : ("enumerate" : Str) ∈ fre := by decide +kernel
theorem fre_reversed : ("reversed" : Str) ∈ fre := by decide +kernel
theorem fre_zip : ("zip" : Str) ∈ fre := by decide +kernel
theorem fre_sorted : ("sorted" : Str) ∈ fre := by decide +kernel
theorem fre_list : ("list" : Str) ∈ fre := by decide +kernel
theorem fre_divmod : ("divmod" : Str) ∈ fre := by decide +kernel
/-! ### heaps -/
theorem _root_.L2.Same.set {H0 H : Hp} {a : Addr} {o : HO} (S : Same H0 H) (h : H0 a = none) : Same H0 (upd H a o) := fun b u e => by
  have n : b ≠ a := fun q => by rw [q, h] at e; cases e
  rw [upd_ne n]
  exact S b u e
theorem _root_.L2.Same.new {H0 H : Hp} {a : Addr} {o : HO} (S : Same H0 H) (h : H a = none) : Same H0 (upd H a o) := S.set (S.free h)
theorem same_new {H : Hp} {a : Addr} {o : HO} (h : H a = none) : Same H (upd H a o) := (Same.refl H).new h
theorem _root_.L2.Same.sqt {K : PySem.W.Frag} {H H' : Hp} {a : Addr} {xs : List V} (e : Same H H') (h : SqT K H a xs) : SqT K H' a xs := by
  rcases h with (h | ⟨o, h⟩) | h
  · exact .inl (.inl (e _ _ h))
  · exact .inl (.inr ⟨o, e _ _ h⟩)
  · exact .inr h
theorem upd_get {H : Hp} {a q : Addr} {o u : HO} (hq : H q = none) (ha : H a = some o) : upd H q u a = some o := same_new hq _ _ ha
theorem ne_new {H : Hp} {a q : Addr} {o : HO} (hq : H q = none) (ha : H a = some o) : a ≠ q := fun e => by rw [e, hq] at ha; cases ha
/-- all but one -/
def SameB (t : Addr) (H H' : Hp) : Prop := ∀ b o, b ≠ t → H b = some o → H' b = some o
theorem SameB.of {t : Addr} {H H' : Hp} (S : Same H H') : SameB t H H' := fun b o _ h => S b o h
theorem SameB.refl {t : Addr} {H : Hp} : SameB t H H := fun _ _ _ h => h
theorem SameB.trans {t : Addr} {H H1 H2 : Hp} (a : SameB t H H1) (b : SameB t H1 H2) : SameB t H H2 := fun c o n h => b c o n (a c o n h)
theorem SameB.then {t : Addr} {H H1 H2 : Hp} (a : SameB t H H1) (b : Same H1 H2) : SameB t H H2 := a.trans (.of b)
theorem SameB.put {t : Addr} {H H1 : Hp} {u : HO} (a : SameB t H H1) : SameB t H (upd H1 t u) := fun c o n h => by rw [upd_ne n]; exact a c o n h
theorem hu_of {k : Nat} {A : Around} (hr : Room k A) : A.units + 1 < cLine := by have := hr.units; omega
def hide (D : Addr) (H : Hp) : Hp := fun b => if b = D then none else H b
theorem hide_upd {D : Addr} {H : Hp} {o : HO} : hide D (upd H D o) = hide D H := by
  funext b
  unfold hide upd
  split <;> rfl
theorem hide_ne {D b : Addr} {H : Hp} (h : b ≠ D) : hide D H b = H b := by
  unfold hide
  rw [if_neg h]
theorem hide_some {D b : Addr} {H : Hp} {o : HO} (h : hide D H b = some o) : b ≠ D ∧ H b = some o := by
  unfold hide at h
  split at h
  · cases h
  · exact ⟨‹_›, h⟩
theorem same_hide {D : Addr} {H : Hp} : Same (hide D H) H := fun b o h => (hide_some h).2
theorem _root_.L2.Same.hide {D : Addr} {H H' : Hp} (S : Same H H') : Same (PP.hide D H) (PP.hide D H') := fun b o h => by
  obtain ⟨n, e⟩ := hide_some h
  rw [hide_ne n]
  exact S b o e
/-! ### what a loop walks -/
structure ItV (J : It) (n : Nat) (va : Nat → V) (G : Hp → Prop) : Prop where
  go : ∀ i H, i < n → G H → J.go i H
  stop : ∀ H, G H → J.stop n H
  yld : ∀ i H x H', i < n → G H → J.yld i H x H' → H' = H ∧ x = va i
theorem itv_r (lo : Int) (n : Nat) : ItV (Itr lo n) n (fun i => .int (lo + i)) fun _ => True := ⟨fun i H h _ => h, fun H _ => Nat.le_refl _, fun i H x H' _ _ h => ⟨h.1, h.2⟩⟩
theorem itv_r0 (n : Nat) : ItV (Itr 0 n) n (fun i => .int (i : Nat)) fun _ => True := ⟨fun i H h _ => h, fun H _ => Nat.le_refl _, fun i H x H' _ _ h => ⟨h.1, by rw [h.2]; congr 1; omega⟩⟩
theorem itv_c (i0 c : Int) (n : Nat) : ItV (Itc i0 c n) n (fun i => .int (i0 + i * c)) fun _ => True := ⟨fun i H h _ => h, fun H _ => Nat.le_refl _, fun i H x H' _ _ h => ⟨h.1, h.2⟩⟩
theorem itv_s (x : Str) : ItV (Its x) x.cps.size (fun i => .str ⟨#[x.cps.getD i 0]⟩) fun _ => True := ⟨fun i H h _ => h, fun H _ => Nat.le_refl _, fun i H v H' _ _ h => by
  obtain ⟨e, c, h1, h2⟩ := h
  refine ⟨e, ?_⟩
  rw [h2, Array.getD_eq_getD_getElem?, h1] <;> rfl⟩
theorem itv_l {K : PySem.W.Frag} (a : Addr) (xs : List V) : ItV (Itl K a) xs.length (fun i => xs.getD i .non) fun H => SqL K H a xs := ⟨fun i H h g => ⟨xs, xs[i], g, List.getElem?_eq_getElem h⟩, fun H g => ⟨xs, g, Nat.le_refl _⟩, fun i H x H' hi g h => by
  refine ⟨h.1, ?_⟩
  have e := h.2 xs g
  show x = xs.getD i .non
  rw [List.getD_eq_getElem?_getD, e] <;> rfl⟩
structure ItT (J : It) (n : Nat) (va vb : Nat → V) (G : Hp → Prop) : Prop where
  go : ∀ i H, i < n → G H → J.go i H
  stop : ∀ H, G H → J.stop n H
  yld : ∀ i H x H', i < n → G H → J.yld i H x H' → ∃ T, x = .ref T ∧ H T = none ∧ H' = upd H T (.tup [va i, vb i])
theorem itt_p (n : Nat) (va vb : Nat → V) : ItT (ItP n va vb) n va vb fun _ => True := ⟨fun i H h _ => h, fun H _ => rfl, fun i H x H' _ _ h => h⟩
theorem itt_e {K : PySem.W.Frag} (a : Addr) (xs : List V) : ItT (Ite K a) xs.length (fun i => .int (i : Nat)) (fun i => xs.getD i .non) fun H => SqL K H a xs := ⟨fun i H h g => ⟨xs, xs[i], g, List.getElem?_eq_getElem h⟩, fun H g => ⟨xs, g, Nat.le_refl _⟩, fun i H x H' hi g h => by
  obtain ⟨T, y, h1, h2, h3, h4⟩ := h
  have e := h4 xs g
  have e2 : xs.getD i .non = y := by rw [List.getD_eq_getElem?_getD, e] <;> rfl
  show ∃ T, x = .ref T ∧ H T = none ∧ H' = upd H T (.tup [.int (i : Nat), xs.getD i .non])
  rw [e2]
  exact ⟨T, h1, h2, h3⟩⟩
theorem itt_z {K : PySem.W.Frag} (a b : Addr) (xs ys : List V) (hl : xs.length = ys.length) : ItT (Itz K a b) xs.length (fun i => xs.getD i .non) (fun i => ys.getD i .non) fun H => SqL K H a xs ∧ SqL K H b ys :=
  ⟨fun i H h g => ⟨xs, ys, xs[i], ys[i], g.1, g.2, List.getElem?_eq_getElem h, List.getElem?_eq_getElem (by omega)⟩, fun H g => ⟨xs, ys, g.1, g.2, .inl (Nat.le_refl _)⟩, fun i H v H' hi g h => by
  obtain ⟨T, x, y, h1, h2, h3, h4, h5⟩ := h
  have e := h4 xs g.1
  have e2 : xs.getD i .non = x := by rw [List.getD_eq_getElem?_getD, e] <;> rfl
  have e3 := h5 ys g.2
  have e4 : ys.getD i .non = y := by rw [List.getD_eq_getElem?_getD, e3] <;> rfl
  show ∃ T, v = .ref T ∧ H T = none ∧ H' = upd H T (.tup [xs.getD i .non, ys.getD i .non])
  rw [e2, e4]
  exact ⟨T, h1, h2, h3⟩⟩
section
variable {wi : TI} {g : TG} {tb : TS} {tt : TT} {te : TE} {D : Ends} {σ : L2.St} {H : Hp} {Q : VK} {n : Nat} {va vb : Nat → V} {G : Hp → Prop} {vs : List Nat}
/-- what a loop asks of its walk -/
def LoopC (g : TG) (tb : TS) (D : Ends) (σ : L2.St) (J : It) (H : Hp) : Prop := ∃ W : Nat → Nat → L2.St → Hp → Prop, (∃ m, W 0 m σ H) ∧ ∀ i m σ H, W i m σ H →
  (J.stop i H ∧ D.nx σ H) ∨ (J.go i H ∧ ∃ N : L2.St → Hp → Prop, (∀ σ' H', N σ' H' → ∃ m', m' < m ∧ W (i + 1) m' σ' H') ∧ ∀ x H', J.yld i H x H' → g x σ H' fun σ2 H2 => tb { D with nx := N, ct := N, bk := D.nx } σ2 H2)
theorem g_for (q : wi σ H (LoopC g tb D σ)) : tFor wi g tb D σ H := q
theorem g_forV {J : It} (Iv : Nat → L2.St → Hp → Prop) (jv : ItV J n va G) (hG : ∀ i σ H, Iv i σ H → G H) (i0 : Iv 0 σ H)
    (step : ∀ i σ H, i < n → Iv i σ H → g (va i) σ H fun σ2 H2 => tb { D with nx := Iv (i + 1), ct := Iv (i + 1), bk := D.nx } σ2 H2) (done : ∀ σ H, Iv n σ H → D.nx σ H) : LoopC g tb D σ J H := by
  refine ⟨fun i m σ H => i + m = n ∧ Iv i σ H, ⟨n, Nat.zero_add n, i0⟩, fun i m σ H hw => ?_⟩
  obtain ⟨e, hi⟩ := hw
  cases m with
  | zero =>
    have e : i = n := e
    subst e
    exact .inl ⟨jv.stop H (hG _ _ _ hi), done σ H hi⟩
  | succ m =>
    have hlt : i < n := by omega
    refine .inr ⟨jv.go i H hlt (hG _ _ _ hi), Iv (i + 1), fun σ' H' h' => ⟨m, Nat.lt_succ_self m, by omega, h'⟩, fun x H' hy => ?_⟩
    obtain ⟨e1, e2⟩ := jv.yld i H x H' hlt (hG _ _ _ hi) hy
    subst e1 e2
    exact step i σ _ hlt hi
theorem g_forT {J : It} (Iv : Nat → L2.St → Hp → Prop) (jv : ItT J n va vb G) (hG : ∀ i σ H, Iv i σ H → G H) (i0 : Iv 0 σ H)
    (step : ∀ i σ H T, i < n → Iv i σ H → H T = none → g (.ref T) σ (upd H T (.tup [va i, vb i])) fun σ2 H2 => tb { D with nx := Iv (i + 1), ct := Iv (i + 1), bk := D.nx } σ2 H2) (done : ∀ σ H, Iv n σ H → D.nx σ H) : LoopC g tb D σ J H := by
  refine ⟨fun i m σ H => i + m = n ∧ Iv i σ H, ⟨n, Nat.zero_add n, i0⟩, fun i m σ H hw => ?_⟩
  obtain ⟨e, hi⟩ := hw
  cases m with
  | zero =>
    have e : i = n := e
    subst e
    exact .inl ⟨jv.stop H (hG _ _ _ hi), done σ H hi⟩
  | succ m =>
    have hlt : i < n := by omega
    refine .inr ⟨jv.go i H hlt (hG _ _ _ hi), Iv (i + 1), fun σ' H' h' => ⟨m, Nat.lt_succ_self m, by omega, h'⟩, fun x H' hy => ?_⟩
    obtain ⟨T, e1, e2, e3⟩ := jv.yld i H x H' hlt (hG _ _ _ hi) hy
    subst e1 e3
    exact step i σ _ T hlt hi e2
/-- what a comprehension asks of its walk -/
def LcC (g : TG) (tt : TT) (te : TE) (vs : List Nat) (σ : L2.St) (Q : VK) (J : It) (H1 : Hp) : Prop := ∀ D, H1 D = none → ∃ W : Nat → Nat → Hp → Prop, (∃ m, W 0 m (upd H1 D (.lst []))) ∧ ∀ i m H, W i m H →
  (J.stop i H ∧ Q (.ref D) H) ∨ (J.go i H ∧ ∃ Nx : Hp → Prop, (∀ H', Nx H' → ∃ m', m' < m ∧ W (i + 1) m' H') ∧ ∀ x H', J.yld i H x H' → g x (wipe σ vs) H' fun σ2 H2 => wipe σ2 vs = wipe σ vs ∧ tt σ2 H2 fun b H3 =>
    if b = true then te σ2 H3 fun y H4 => ∃ acc, H4 D = some (.lst acc) ∧ acc.length < sizeLine ∧ Nx (upd H4 D (.lst (acc ++ [y]))) else Nx H3)
theorem g_lc (q : wi σ H (LcC g tt te vs σ Q)) : tLc wi g tt te vs σ H Q := q
theorem hide_none {D : Addr} {H : Hp} (h : H D = none) : hide D H = H := by
  funext b
  unfold hide
  split
  · rename_i q
    rw [q, h]
  · rfl
/-- a comprehension: the list so far, the heap without it -/
theorem g_lcV {J : It} {H1 : Hp} (Iv : Nat → List V → Hp → Prop) (hn : n ≤ 100000) (jv : ItV J n va G) (hG : ∀ H2, Same H1 H2 → G H2) (i0 : Iv 0 [] H1)
    (step : ∀ D i acc H2 (Nx : Hp → Prop), i < n → H1 D = none → H2 D = some (.lst acc) → Same H1 H2 → Iv i acc (hide D H2) → (∀ H4, Same H2 H4 → Iv (i + 1) acc (hide D H4) → Nx H4) →
      ∀ KK : V → Hp → Prop, (∀ y H5, Same H2 H5 → Iv (i + 1) (acc ++ [y]) (hide D H5) → KK y H5) → ∀ R : L2.St → Hp → Prop, (∀ σ2 H3, (wipe σ2 vs = wipe σ vs ∧ tt σ2 H3 fun b H4 => if b = true then te σ2 H4 KK else Nx H4) → R σ2 H3) → g (va i) (wipe σ vs) H2 R)
    (done : ∀ D acc H2, H1 D = none → H2 D = some (.lst acc) → Same H1 H2 → Iv n acc (hide D H2) → Q (.ref D) H2) : LcC g tt te vs σ Q J H1 := by
  intro D hD
  refine ⟨fun i m H2 => i + m = n ∧ ∃ acc, H2 D = some (.lst acc) ∧ Same H1 H2 ∧ acc.length ≤ i ∧ Iv i acc (hide D H2), ⟨n, Nat.zero_add n, [], upd_same, same_new hD, Nat.le_refl _, by
    rw [hide_upd, hide_none hD]
    exact i0⟩, fun i m H2 hw => ?_⟩
  obtain ⟨e, acc, h1, h2, h3, h4⟩ := hw
  cases m with
  | zero =>
    have e : i = n := e
    subst e
    exact .inl ⟨jv.stop H2 (hG H2 h2), done D acc H2 hD h1 h2 h4⟩
  | succ m =>
    have hlt : i < n := by omega
    refine .inr ⟨jv.go i H2 hlt (hG H2 h2), fun H3 => ∃ acc, H3 D = some (.lst acc) ∧ Same H1 H3 ∧ acc.length ≤ i + 1 ∧ Iv (i + 1) acc (hide D H3), fun H3 h' => ⟨m, Nat.lt_succ_self m, by omega, h'⟩, fun x H' hy => ?_⟩
    obtain ⟨e1, e2⟩ := jv.yld i H2 x H' hlt (hG H2 h2) hy
    subst e1 e2
    refine step D i acc _ _ hlt hD h1 h2 h4 (fun H4 q1 q2 => ⟨acc, q1 _ _ h1, h2.trans q1, Nat.le_succ_of_le h3, q2⟩) _ (fun y H5 q1 q2 => ?_) _ (fun σ2 H3 q => q)
    refine ⟨acc, q1 _ _ h1, ?_, acc ++ [y], upd_same, (h2.trans q1).set hD, by rw [List.length_append]; exact Nat.succ_le_succ h3, by rw [hide_upd]; exact q2⟩
    have : (100000 : Nat) < sizeLine := by decide
    omega
theorem g_lcT {J : It} {H1 : Hp} (Iv : Nat → List V → Hp → Prop) (hn : n ≤ 100000) (jv : ItT J n va vb G) (hG : ∀ H2, Same H1 H2 → G H2) (i0 : Iv 0 [] H1)
    (step : ∀ D i acc H2 T (Nx : Hp → Prop), i < n → H1 D = none → H2 D = some (.lst acc) → H2 T = none → Same H1 H2 → Iv i acc (hide D H2) → (∀ H4, Same H2 H4 → Iv (i + 1) acc (hide D H4) → Nx H4) →
      ∀ KK : V → Hp → Prop, (∀ y H5, Same H2 H5 → Iv (i + 1) (acc ++ [y]) (hide D H5) → KK y H5) → ∀ R : L2.St → Hp → Prop, (∀ σ2 H3, (wipe σ2 vs = wipe σ vs ∧ tt σ2 H3 fun b H4 => if b = true then te σ2 H4 KK else Nx H4) → R σ2 H3) → g (.ref T) (wipe σ vs) (upd H2 T (.tup [va i, vb i])) R)
    (done : ∀ D acc H2, H1 D = none → H2 D = some (.lst acc) → Same H1 H2 → Iv n acc (hide D H2) → Q (.ref D) H2) : LcC g tt te vs σ Q J H1 := by
  intro D hD
  refine ⟨fun i m H2 => i + m = n ∧ ∃ acc, H2 D = some (.lst acc) ∧ Same H1 H2 ∧ acc.length ≤ i ∧ Iv i acc (hide D H2), ⟨n, Nat.zero_add n, [], upd_same, same_new hD, Nat.le_refl _, by
    rw [hide_upd, hide_none hD]
    exact i0⟩, fun i m H2 hw => ?_⟩
  obtain ⟨e, acc, h1, h2, h3, h4⟩ := hw
  cases m with
  | zero =>
    have e : i = n := e
    subst e
    exact .inl ⟨jv.stop H2 (hG H2 h2), done D acc H2 hD h1 h2 h4⟩
  | succ m =>
    have hlt : i < n := by omega
    refine .inr ⟨jv.go i H2 hlt (hG H2 h2), fun H3 => ∃ acc, H3 D = some (.lst acc) ∧ Same H1 H3 ∧ acc.length ≤ i + 1 ∧ Iv (i + 1) acc (hide D H3), fun H3 h' => ⟨m, Nat.lt_succ_self m, by omega, h'⟩, fun x H' hy => ?_⟩
    obtain ⟨T, e1, e2, e3⟩ := jv.yld i H2 x H' hlt (hG H2 h2) hy
    subst e1 e3
    refine step D i acc _ T _ hlt hD h1 e2 h2 h4 (fun H4 q1 q2 => ⟨acc, q1 _ _ h1, h2.trans q1, Nat.le_succ_of_le h3, q2⟩) _ (fun y H5 q1 q2 => ?_) _ (fun σ2 H3 q => q)
    refine ⟨acc, q1 _ _ h1, ?_, acc ++ [y], upd_same, (h2.trans q1).set hD, by rw [List.length_append]; exact Nat.succ_le_succ h3, by rw [hide_upd]; exact q2⟩
    have : (100000 : Nat) < sizeLine := by decide
    omega
end
/-- an int as a test -/
theorem pt_truthI {X : Cx} {a : Expr} {ta : TE} (ha : PE X a ta) (he : ∀ whole, isTrue a X.env whole = (do let v ← whole; standAt a.pos; holding [v] (truthy v)) := by intro _; rfl) : PT X a (fun σ H Q => ta σ H fun x H' => ∃ i : Int, x = .int i ∧ Q (i != 0) H') := by
  refine ⟨fun pins s σ H Q I h => ?_⟩
  refine isTrue_plain (thn (ha.run pins s σ H _ I h) fun v s1 ⟨x, H1, I1, r1, q1⟩ => ?_) (he _)
  obtain ⟨i, e, q⟩ := q1
  subst e
  exact tru_ok pins s1 σ H1 _ v Q I1 r1 ⟨_, rfl, q⟩
/-! ### states, written out -/
theorem set_S {α : Type} {a v : α} {l l' : List α} {n : Nat} (h : l.set n v = l') : (a :: l).set (n + 1) v = a :: l' := by
  subst h
  rfl
theorem set_0 {α : Type} {a v : α} {l : List α} : (a :: l).set 0 v = v :: l := rfl
theorem start_S {x : Str} {N : List Str} {v : V} {vs : List V} {l : L2.St} (h : L2.start N vs = l) : L2.start (x :: N) (v :: vs) = some v :: l := by
  subst h
  unfold L2.start
  rw [List.map_cons, List.cons_append, List.length_cons, List.length_cons, Nat.add_sub_add_right]
theorem start_N {x : Str} {N : List Str} {l : L2.St} (h : L2.start N [] = l) : L2.start (x :: N) [] = none :: l := by
  subst h
  rfl
theorem start_0 : L2.start [] [] = [] := rfl
theorem start_eS (x : Str) (N : List Str) (v : V) (vs : List V) : L2.start (x :: N) (v :: vs) = some v :: L2.start N vs := start_S rfl
theorem start_eN (x : Str) (N : List Str) : L2.start (x :: N) [] = none :: L2.start N [] := rfl
theorem start_e0 : L2.start [] [] = [] := rfl
theorem g_start {f : L2.St → Hp → Prop} {σ σ' : L2.St} {H : Hp} (e : σ = σ') (q : f σ' H) : f σ H := by
  subst e
  exact q
theorem g_nxS {f : L2.St → Hp → Prop} {r : VK} {b c : L2.St → Hp → Prop} {σ σ' : L2.St} {H : Hp} {i : Nat} {v : Option V} (e : σ.set i v = σ') (q : f σ' H) : (Ends.mk f r b c).nx (σ.set i v) H := by
  subst e
  exact q
theorem g_gnameS {i : Nat} {v : V} {σ σ' : L2.St} {H : Hp} {R : L2.St → Hp → Prop} (e : σ.set i (some v) = σ') (q : R σ' H) : gName i v σ H R := by
  subst e
  exact q
/-! ### more steps -/
section
variable {σ : L2.St} {H : Hp} {Q : VK} {te ta tb tc : TE} {tr : TA} {R : It → Hp → Prop} {K : PySem.W.Frag} {D : Ends}
theorem g_rng1 (q : tr σ H fun vs H1 => ∃ j : Int, vs = [.int j] ∧ -(2 ^ 62) ≤ j ∧ j < 2 ^ 62 ∧ R (Itr 0 j.toNat) H1) : iRng1 tr σ H R := q
theorem g_rng1c {j : Int} (h : 0 ≤ j ∧ j < 2 ^ 62) (q : R (Itr 0 j.toNat) H) : ∃ i : Int, [V.int j] = [.int i] ∧ -(2 ^ 62) ≤ i ∧ i < 2 ^ 62 ∧ R (Itr 0 i.toNat) H := ⟨j, rfl, by omega, h.2, q⟩
theorem g_rngN {n : Nat} (h : n < 2 ^ 62) (q : R (Itr 0 n) H) : ∃ i : Int, [V.int (n : Nat)] = [.int i] ∧ -(2 ^ 62) ≤ i ∧ i < 2 ^ 62 ∧ R (Itr 0 i.toNat) H := ⟨n, rfl, by omega, by omega, q⟩
theorem g_ilst (q : te σ H fun x H1 => ∃ a, x = .ref a ∧ (∃ xs, SqL K H1 a xs) ∧ R (Itl K a) H1) : iList K te σ H R := q
theorem g_ilstc {a : Addr} {xs : List V} (s : SqL K H a xs) (q : R (Itl K a) H) : ∃ b, V.ref a = .ref b ∧ (∃ xs, SqL K H b xs) ∧ R (Itl K b) H := ⟨a, rfl, ⟨xs, s⟩, q⟩
theorem g_istr (q : te σ H fun v H1 => ∃ x, v = .str x ∧ R (Its x) H1) : iStr te σ H R := q
theorem g_istrc {x : Str} (q : R (Its x) H) : ∃ z, V.str x = .str z ∧ R (Its z) H := ⟨x, rfl, q⟩
theorem g_chain {r r' : R2} (q : ta σ H fun x H1 => tb σ H1 fun y H2 => r x y H2 fun z H3 => ∃ k, z = .bl k ∧ (if k = true then tc σ H3 fun w' H4 => r' y w' H4 Q else Q (.bl false) H3)) : tChain r r' ta tb tc σ H Q := q
theorem g_len {l : List Nat} (hl : l.length ≤ 100000) (q : Q (.int (l.length : Nat)) H) : ∃ z, [V.str (tx l)] = [.str z] ∧ z.length ≤ sizeLine ∧ Q (.int z.length) H := ⟨tx l, rfl, Evl.sz_of (by rw [tx_len]; exact hl), q⟩
theorem g_lenL {a : Addr} {xs : List V} (h : SqL K H a xs) (q : Q (.int (xs.length : Nat)) H) : ∃ p ys, [V.ref a] = [.ref p] ∧ (SqL K H p ys ∨ SqT K H p ys) ∧ Q (.int (ys.length : Nat)) H := ⟨a, xs, rfl, .inl h, q⟩
theorem g_lens {l : List Nat} {sz : Nat} (hs : l.length ≤ 1000) (q : Q (.str (tx (l ++ [sz]))) H) : ∃ i j, V.str (tx l) = .str i ∧ V.str (tx [sz]) = .str j ∧ i.length + j.length ≤ sizeLine ∧ Q (.str (i ++ j)) H :=
  ⟨tx l, tx [sz], rfl, rfl, by rw [tx_len, tx_len]; exact Evl.sz_of (by simp only [List.length_singleton]; omega), by rw [tx_app]; exact q⟩
theorem g_cat {l m : List Nat} (hs : l.length + m.length ≤ 100000) (q : Q (.str (tx (l ++ m))) H) : ∃ i j, V.str (tx l) = .str i ∧ V.str (tx m) = .str j ∧ i.length + j.length ≤ sizeLine ∧ Q (.str (i ++ j)) H :=
  ⟨tx l, tx m, rfl, rfl, by rw [tx_len, tx_len]; exact Evl.sz_of hs, by rw [tx_app]; exact q⟩
theorem g_ixL {a : Addr} {xs : List V} {i : Int} {v : V} (n : Nat) (h : SqL K H a xs) (e : i = (n : Int)) (hv : xs[n]? = some v) (q : Q v H) : rIxL K (.ref a) (.int i) H Q := ⟨a, xs, i, v, rfl, rfl, h, by rw [e]; exact atI_nat hv, q⟩
theorem g_ixT {a : Addr} {xs : List V} {i : Int} {v : V} (n : Nat) (h : SqT K H a xs) (e : i = (n : Int)) (hv : xs[n]? = some v) (q : Q v H) : rIxT K (.ref a) (.int i) H Q := ⟨a, xs, i, v, rfl, rfl, h, by rw [e]; exact atI_nat hv, q⟩
theorem g_setL {a : Addr} {xs : List V} {i : Int} {v : V} {R : Hp → Prop} (n : Nat) (h : H a = some (.lst xs)) (e : i = (n : Int)) (hn : n < xs.length) (q : R (upd H a (.lst (xs.set n v)))) : rSetL (.ref a) (.int i) v H R := ⟨a, xs, i, n, rfl, rfl, h, by
  rw [e]
  unfold ixN
  rw [if_pos (by omega), if_pos (by omega)]
  rfl, q⟩
theorem g_gsub {to ti : TE} {t : TSet} {v : V} {R : L2.St → Hp → Prop} (q : to σ H fun o H1 => ti σ H1 fun i H2 => t o i v H2 fun H3 => R σ H3) : gSub to ti t v σ H R := q
theorem g_gname {i : Nat} {v : V} {R : L2.St → Hp → Prop} (q : R (σ.set i (some v)) H) : gName i v σ H R := q
theorem g_gtup {a : Addr} {xs : List V} {n : Nat} {t : TGs} {R : L2.St → Hp → Prop} (h : SqT K H a xs) (hn : xs.length = n) (q : t xs σ H R) : gTup K n t (.ref a) σ H R := ⟨a, xs, rfl, h, hn, q⟩
theorem g_gcons {v : V} {r : List V} {t : TG} {u : TGs} {R : L2.St → Hp → Prop} (q : t v σ H fun σ' H' => u r σ' H' R) : gCons t u (v :: r) σ H R := ⟨v, r, rfl, q⟩
theorem g_gnil {R : L2.St → Hp → Prop} (q : R σ H) : gNil [] σ H R := ⟨rfl, q⟩
theorem g_yes {R : Bool → Hp → Prop} (q : R true H) : tYes σ H R := q
theorem g_nT {A B : Prop} (q : A) : if (!false) = true then A else B := iteT q
theorem g_nF {A B : Prop} (q : B) : if (!true) = true then A else B := iteF q
theorem g_dT {p : Prop} {_ : Decidable p} {A B : Prop} (h : p) (q : A) : if decide p = true then A else B := by rw [if_pos (decide_eq_true h)]; exact q
theorem g_dF {p : Prop} {_ : Decidable p} {A B : Prop} (h : ¬ p) (q : B) : if decide p = true then A else B := by rw [if_neg (by rw [decide_eq_false h]; decide)]; exact q
theorem g_ndT {p : Prop} {_ : Decidable p} {A B : Prop} (h : ¬ p) (q : A) : if (!decide p) = true then A else B := by rw [decide_eq_false h]; exact q
theorem g_ndF {p : Prop} {_ : Decidable p} {A B : Prop} (h : p) (q : B) : if (!decide p) = true then A else B := by rw [decide_eq_true h]; exact iteF q
theorem g_true {A B : Prop} (q : A) : if true = true then A else B := iteT q
theorem g_false {A B : Prop} (q : B) : if false = true then A else B := iteF q
end
/-! ### rules, the fragment by its name -/
section
variable {X : Cx} {K : PySem.W.Frag} {pos : Pos}
theorem ix_listK (h : X.K = K := by rfl) : IxR X (rIxL K) := by subst h; exact ix_list
theorem ix_tupK (h : X.K = K := by rfl) : IxR X (rIxT K) := by subst h; exact ix_tup
theorem pi_listK {tg l : Expr} {tl : TE} (hl : PE X l tl) (h : X.K = K := by rfl) : PI X tg l (iList K tl) := by subst h; exact pi_list hl
theorem call_len_seqK (h : X.K = K := by rfl) : CallR X (.builtin "len") (fun xs H Q => ∃ p ys, xs = [.ref p] ∧ (SqL K H p ys ∨ SqT K H p ys) ∧ Q (.int ys.length) H) := by subst h; exact call_len_seq
theorem call_list_ofK (h : X.K = K := by rfl) : CallR X (.type "list") (fun xs H Q => ∃ p ys, xs = [.ref p] ∧ (SqL K H p ys ∨ SqT K H p ys) ∧ ∀ l, H l = none → Q (.ref l) (upd H l (.lst ys))) := by subst h; exact call_list_of
theorem pe_fldK {e : Expr} {ta : TE} {f : Str} (he : PE X e ta) (hb : attributeBase e f X.env (eval e X.env) = eval e X.env) (h : X.K = K := by rfl) : PE X (.Attribute e f pos) (tFld K ta f) := by subst h; exact pe_fld he hb
theorem pg_tupK {es : List Expr} {k : Nat} {t : TGs} {n : Nat} (hc : X.calm = true) (h : PGs X es t) (hK : X.K = K := by rfl)
    (hn : (assignEach es X.env).length = n := by rfl) (hst : (assignEach es X.env).findIdx? (·.1) = none := by rfl) : PG X (.Tuple es k pos) (gTup K n t) := by subst hK; exact pg_tup hc h hn hst
end
/-! ### texts -/
theorem getD_tx (l : List Nat) (i : Nat) : (tx l).cps.getD i 0 = l.getD i 0 := by
  rw [Array.getD_eq_getD_getElem?, List.getD_eq_getElem?_getD]
  show (l.toArray[i]?).getD 0 = _
  rw [List.getElem?_toArray]
theorem itv_tx (l : List Nat) : ItV (Its (tx l)) l.length (fun i => .str (tx [l.getD i 0])) fun _ => True := by
  have h := itv_s (tx l)
  have e : (fun i : Nat => V.str ⟨#[(tx l).cps.getD i 0]⟩) = fun i : Nat => V.str (tx [l.getD i 0]) := by
    funext i
    rw [getD_tx] <;> rfl
  rw [e] at h
  exact h
theorem itt_txp {n : Nat} {va vb : Nat → V} {l : List Nat} : ItT (ItP n va vb) n va vb fun _ => True := itt_p n va vb
theorem sgn_tx (l : List Nat) (i : Nat) : sgn (tx l) i = .str (tx [l.getD i 0]) := by
  unfold sgn
  rw [getD_tx] <;> rfl
theorem tx_size (l : List Nat) : (tx l).cps.size = l.length := rfl
theorem cutS_to {l : List Nat} {n : Nat} : cutS (tx l) none (some (n : Int)) = tx (l.take n) := by
  unfold cutS
  rw [HT.sIx_nat, HT.sIx_none, tx_len]
  show tx ((l.drop 0).take (min n l.length - 0)) = tx (l.take n)
  rw [List.drop_zero, Nat.sub_zero]
  congr 1
  rw [List.take_eq_take_iff]
  omega
theorem cutS_from {l : List Nat} {n : Nat} : cutS (tx l) (some (n : Int)) none = tx (l.drop n) := by
  unfold cutS
  rw [HT.sIx_nat, HT.sIx_none, tx_len]
  show tx ((l.drop (min n l.length)).take (l.length - min n l.length)) = tx (l.drop n)
  congr 1
  by_cases h : n ≤ l.length
  · rw [Nat.min_eq_left h, List.take_of_length_le (by rw [List.length_drop]; exact Nat.le_refl _)]
  · rw [Nat.min_eq_right (by omega), Nat.sub_self, List.take_zero, List.drop_of_length_le (by omega)]
theorem join_tx : ∀ l : List Nat, Txt.join (tx []) (l.map fun c => tx [c]) = tx l := by
  have h : ∀ l : List Nat, Str.join (tx []) (l.map fun c => tx [c]) = tx l := by
    intro l
    induction l with
    | nil => rfl
    | cons a l ih =>
      cases l with
      | nil => rfl
      | cons b l =>
        show tx [a] ++ tx [] ++ Str.join (tx []) ((b :: l).map fun c => tx [c]) = _
        rw [ih, tx_app, tx_app]
        rfl
  intro l
  exact (PySem.StrLaws.glued_eq_join _ _).trans (h l)
theorem sum_ones (l : List Nat) : ((l.map fun c => tx [c]).map (·.length)).sum = l.length := by
  induction l with
  | nil => rfl
  | cons a l ih =>
    rw [List.map_cons, List.map_cons, List.sum_cons, ih, List.length_cons]
    show 1 + l.length = _
    omega
theorem starts_tx (a b : List Nat) : Txt.startswith (tx a) (tx b) = b.isPrefixOf a := by
  have e : Txt.startswith (tx a) (tx b) = (decide (0 + b.length ≤ a.length) && Builtin.Str.subAt (tx a) (tx b) 0) := rfl
  rw [e, StrLaws.subAt_eq, Bool.eq_iff_iff, List.isPrefixOf_iff_prefix, List.prefix_iff_eq_take]
  show (decide (0 + b.length ≤ a.length) && ((a.drop 0).take b.length == b)) = true ↔ _
  rw [Bool.and_eq_true, decide_eq_true_eq, beq_iff_eq, List.drop_zero]
  constructor
  · exact fun h => h.2.symm
  · intro h
    refine ⟨?_, h.symm⟩
    have := congrArg List.length h
    rw [List.length_take] at this
    omega
section
variable {σ : L2.St} {H : Hp} {Q : VK} {te ta tb tc : TE} {tr : TA} {R : It → Hp → Prop} {K : PySem.W.Frag} {D : Ends}
theorem g_join {l : List Nat} {p : Addr} (hl : l.length ≤ 1000) (h : SqL K H p (l.map fun c => V.str (tx [c]))) (q : Q (.str (tx l)) H) : ∃ (a : Str) (p' : Addr) (ys : List Str), V.str (tx []) = V.str a ∧ [V.ref p] = [V.ref p'] ∧ (SqL K H p' (ys.map V.str) ∨ SqT K H p' (ys.map V.str)) ∧
    (ys.map (·.length)).sum + ys.length * a.length ≤ 16777216 ∧ Q (.str (Txt.join a ys)) H := by
  refine ⟨tx [], p, l.map fun c => tx [c], rfl, rfl, .inl (by rw [List.map_map]; exact h), ?_, ?_⟩
  · rw [sum_ones, List.length_map]
    show l.length + l.length * 0 ≤ _
    omega
  · rw [join_tx]
    exact q
theorem g_m1 {r : V → List V → Hp → VK → Prop} (q : ta σ H fun x H1 => (∃ a, x = .str a) ∧ te σ H1 fun y H2 => r x [y] H2 Q) : tM1 r ta te σ H Q := q
theorem g_m1c {x : Str} {P : Prop} (q : P) : (∃ a, V.str x = .str a) ∧ P := ⟨⟨x, rfl⟩, q⟩
theorem g_starts {a b : List Nat} (q : Q (.bl (b.isPrefixOf a)) H) : ∃ x y, V.str (tx a) = .str x ∧ [V.str (tx b)] = [.str y] ∧ Q (.bl (Txt.startswith x y)) H := ⟨tx a, tx b, rfl, rfl, by rw [starts_tx]; exact q⟩
theorem g_rev {tw : L2.St → Hp → (Int → Int → Hp → Prop) → Prop} (q : tw σ H fun a b H1 => -(2 ^ 62) ≤ a ∧ a < 2 ^ 62 ∧ -(2 ^ 62) ≤ b ∧ b < 2 ^ 62 ∧ R (Itc (a + (((b - a).toNat : Nat) : Int) - 1) (-1) (b - a).toNat) H1) : iRevR tw σ H R := q
theorem g_rg1 {R2 : Int → Int → Hp → Prop} (q : te σ H fun x H1 => ∃ n, x = .int n ∧ R2 0 n H1) : tRg1 te σ H R2 := q
theorem g_rg1c {n : Int} {R2 : Int → Int → Hp → Prop} (q : R2 0 n H) : ∃ m, V.int n = .int m ∧ R2 0 m H := ⟨n, rfl, q⟩
/-- range(n) from its end -/
theorem g_revN {n : Nat} (hn : n ≤ 100000) (q : R (Itc ((n : Int) - 1) (-1) n) H) : -(2 ^ 62) ≤ (0 : Int) ∧ (0 : Int) < 2 ^ 62 ∧ -(2 ^ 62) ≤ (n : Int) ∧ (n : Int) < 2 ^ 62 ∧ R (Itc (0 + ((((n : Int) - 0).toNat : Nat) : Int) - 1) (-1) ((n : Int) - 0).toNat) H := by
  have e : ((n : Int) - 0).toNat = n := by omega
  rw [e, Int.zero_add]
  exact ⟨by decide, by decide, by omega, by omega, q⟩
theorem g_ifCI {b : Bool} {i1 i2 : Int} (q : Q (.int (if b = true then i1 else i2)) H) : if b = true then tC (.int i1) σ H Q else tC (.int i2) σ H Q := by
  cases b <;> exact q
theorem g_ifCS {b : Bool} {i1 i2 : List Nat} (q : Q (.str (tx (if b = true then i1 else i2))) H) : if b = true then tC (.str (tx i1)) σ H Q else tC (.str (tx i2)) σ H Q := by
  cases b <;> exact q
theorem g_ifC1 {b : Bool} {i1 i2 : Nat} (q : Q (.str (tx [if b = true then i1 else i2])) H) : if b = true then tC (.str (tx [i1])) σ H Q else tC (.str (tx [i2])) σ H Q := by
  cases b <;> exact q
theorem g_trI {i : Int} {R : Bool → Hp → Prop} (q : R (i != 0) H) : ∃ j : Int, V.int i = .int j ∧ R (j != 0) H := ⟨i, rfl, q⟩
theorem g_slS {z : V → Option Int → Option Int → Hp → VK → Prop} {tl th : TO} (q : te σ H fun x H1 => tl σ H1 fun l H2 => th σ H2 fun u H3 => z x l u H3 Q) : tSl z te tl th σ H Q := q
theorem g_noP {R : Option Int → Hp → Prop} (q : R none H) : tNoPart σ H R := q
theorem g_part {R : Option Int → Hp → Prop} (q : te σ H fun x H1 => ∃ i, x = .int i ∧ R (some i) H1) : tPart te σ H R := q
theorem g_partc {i : Int} {R : Option Int → Hp → Prop} (q : R (some i) H) : ∃ j, V.int i = .int j ∧ R (some j) H := ⟨i, rfl, q⟩
theorem g_to {l : List Nat} {n : Nat} (hl : l.length ≤ 100000) (q : Q (.str (tx (l.take n))) H) : rSlS (.str (tx l)) none (some (n : Int)) H Q := ⟨tx l, rfl, Evl.sz_of (by rw [tx_len]; exact hl), by rw [cutS_to]; exact q⟩
theorem g_from {l : List Nat} {n : Nat} (hl : l.length ≤ 100000) (q : Q (.str (tx (l.drop n))) H) : rSlS (.str (tx l)) (some (n : Int)) none H Q := ⟨tx l, rfl, Evl.sz_of (by rw [tx_len]; exact hl), by rw [cutS_from]; exact q⟩
theorem g_mulS {c n : Nat} (hn : n ≤ 1000) (q : Q (.str (tx (List.replicate n c))) H) : rMulS (.str (tx [c])) (.int (n : Int)) H Q := ⟨c, n, rfl, rfl, hn, q⟩
end
theorem sz_tx {l : List Nat} (h : l.length ≤ 100000) : (tx l).length ≤ sizeLine := Evl.sz_of (by rw [tx_len]; exact h)
theorem sz_cat {l m : List Nat} (h : l.length + m.length ≤ 100000) : (tx l).length + (tx m).length ≤ sizeLine := by rw [tx_len, tx_len]; exact Evl.sz_of h
@[simp] theorem tx_len' (l : List Nat) : (tx l).length = l.length := rfl
theorem sz1 : (1 : Nat) ≤ sizeLine := by decide
theorem sz2 : (2 : Nat) ≤ sizeLine := by decide
theorem sz3 : (3 : Nat) ≤ sizeLine := by decide
theorem sz5 : (5 : Nat) ≤ sizeLine := by decide
theorem sz0 : (0 : Nat) ≤ sizeLine := by decide
theorem lt_sz {n : Nat} (h : n ≤ 100000) : n < sizeLine := by
  have : (100000 : Nat) < sizeLine := by decide
  omega
theorem le_sz {n : Nat} (h : n ≤ 100000) : n ≤ sizeLine := Nat.le_of_lt (lt_sz h)
section
variable {σ : L2.St} {H : Hp} {Q : VK} {ta : TE} {tb : TS} {D : Ends} {tr : TA} {R : It → Hp → Prop} {K : PySem.W.Frag}
theorem g_whileT (W : Nat → L2.St → Hp → Prop) (m : Nat) (w0 : W m σ H) (turn : ∀ m σ H, W m σ H → tb { D with nx := fun σ' H' => ∃ m', m' < m ∧ W m' σ' H', ct := fun σ' H' => ∃ m', m' < m ∧ W m' σ' H', bk := D.nx } σ H) : tWhile (tB (tC (.bl true))) tb D σ H :=
  ⟨W, ⟨m, w0⟩, fun m σ H h => ⟨true, rfl, iteT ⟨_, fun _ _ h => h, turn m σ H h⟩⟩⟩
theorem g_bits (q : ta σ H fun x H1 => ∃ i, x = .int i ∧ Q (.int (Builtin.Int.intBits i : Nat)) H1) : tBits ta σ H Q := q
theorem g_enumS (q : tr σ H fun vs H1 => ∃ x, vs = [.str x] ∧ R (ItP x.cps.size (fun i => .int (i : Nat)) (sgn x)) H1) : iEnumS tr σ H R := q
end
theorem g_exI {i : Int} {R : Int → Prop} (q : R i) : ∃ j, V.int i = .int j ∧ R j := ⟨i, rfl, q⟩
theorem g_exS {x : Str} {R : Str → Prop} (q : R x) : ∃ y, V.str x = .str y ∧ R y := ⟨x, rfl, q⟩
theorem g_exR {a : Addr} {R : Addr → Prop} (q : R a) : ∃ b, V.ref a = .ref b ∧ R b := ⟨a, rfl, q⟩
theorem g_exLS {x : Str} {R : Str → Prop} (q : R x) : ∃ y, [V.str x] = [V.str y] ∧ R y := ⟨x, rfl, q⟩
theorem g_exLR {a : Addr} {R : Addr → Prop} (q : R a) : ∃ b, [V.ref a] = [V.ref b] ∧ R b := ⟨a, rfl, q⟩

end PP
namespace PP
open PySem PySem.Spec PyProof.Rows L2
/-! ### the coder, in plain arithmetic -/
def ctxM (w : Nat) (l : List Nat) (p : Nat) : Nat :=
  if p < w then (if 0 < p % w ∧ l.getD (p - 1) 0 = 49 then 1 else 0) else
  (if 0 < p % w ∧ l.getD (p - 1) 0 = 49 then 1 else 0) + (if 0 < p % w ∧ l.getD (p - w - 1) 0 = 49 then 2 else 0) + (if l.getD (p - w) 0 = 49 then 4 else 0) + (if p % w + 1 < w ∧ l.getD (p - w + 1) 0 = 49 then 8 else 0)
def shStep (w : Nat) (l : List Nat) (p : Nat) (s : Int × Int) (e : Nat) : Int × Int :=
  if ctxM w l e = ctxM w l p then (if l.getD e 0 = 49 then (s.1, s.2 + 1) else (s.1 + 1, s.2)) else s
def shM (w : Nat) (l : List Nat) (p n : Nat) : Int × Int := (List.range n).foldl (shStep w l p) (1, 1)
structure Iv where
  low : Int
  size : Int
  whole : Int
  zs : List Int
  os : List Int
deriving DecidableEq
def ivStep (w : Nat) (l : List Nat) (s : Iv) (p : Nat) : Iv :=
  let c := ctxM w l p
  let z := s.zs.getD c 0
  let o := s.os.getD c 0
  if l.getD p 0 = 49 then ⟨s.low * (z + o) + s.size * z, s.size * o, s.whole * (z + o), s.zs, s.os.set c (o + 1)⟩
  else ⟨s.low * (z + o), s.size * z, s.whole * (z + o), s.zs.set c (z + 1), s.os⟩
def ivM (w : Nat) (l : List Nat) (n : Nat) : Iv := (List.range n).foldl (ivStep w l) ⟨0, 1, 1, List.replicate 16 1, List.replicate 16 1⟩
theorem ivM_succ (w : Nat) (l : List Nat) (n : Nat) : ivM w l (n + 1) = ivStep w l (ivM w l n) n := by
  unfold ivM
  rw [List.range_succ, List.foldl_append]
  rfl
theorem shM_succ (w : Nat) (l : List Nat) (p n : Nat) : shM w l p (n + 1) = shStep w l p (shM w l p n) n := by
  unfold shM
  rw [List.range_succ, List.foldl_append]
  rfl
def dtextM (x : Int) (many : Nat) : List Nat := (List.range many).map fun (i : Nat) => if decide ((x / 2 ^ (many - 1 - i)) % 2 = 0) = true then 48 else 49
def valStep (n : Int) (d : Nat) : Int := 2 * n + (if d = 49 then 1 else 0)
def valM (c : List Nat) : Int := c.foldl valStep 0
def firstM (s : Iv) (m : Nat) : Int := -((-s.low * 2 ^ m).fdiv s.whole)
def codeOk (s : Iv) (m : Nat) : Bool := decide ((firstM s m + 1) * s.whole ≤ (s.low + s.size) * 2 ^ m)
def codeN (s : Iv) : Nat → Nat → Nat
  | 0, m => m
  | f + 1, m => if codeOk s m then m else codeN s f (m + 1)
def bits0 (s : Iv) : Nat := Builtin.Int.intBits (s.whole.fdiv s.size) - 1
def many (s : Iv) : Nat := codeN s 40 (bits0 s)
def codeM (w : Nat) (l : List Nat) : List Nat := dtextM (firstM (ivM w l l.length) (many (ivM w l l.length))) (many (ivM w l l.length))
def opensM (w : Nat) (c l : List Nat) : Bool := c.isPrefixOf (codeM w l)
def nextM (w m : Nat) (c b : List Nat) : List Nat :=
  let s := ivM w b b.length
  let q := shM w b b.length b.length
  let border := s.low * (q.1 + q.2) + s.size * q.1
  let whole := s.whole * (q.1 + q.2)
  let number := valM c
  if (number + 1) * whole ≤ border * 2 ^ c.length then [48]
  else if border * 2 ^ c.length ≤ number * whole then [49]
  else
    let more := m - b.length - 1
    let lo := opensM w c (b ++ [48] ++ List.replicate more 49)
    let hi := opensM w c (b ++ [49] ++ List.replicate more 48)
    if lo && hi then [63] else if lo then [48] else if hi then [49] else []
def findL (w m : Nat) (c : List Nat) : Nat → List Nat → Option (List Nat)
  | 0, b => if opensM w c b then some b else none
  | k + 1, b => if nextM w m c b = [63] then some b else if nextM w m c b = [] then none else findL w m c k (b ++ nextM w m c b)
def findM (w m : Nat) (c : List Nat) : Option (List Nat) := if 17 * m + 848 ≤ 16 * c.length then none else findL w m c m []
/-! ### the few that there are -/
def bitsN : Nat → List (List Nat)
  | 0 => [[]]
  | n + 1 => (bitsN n).flatMap fun l => [48 :: l, 49 :: l]
def allB : List (List Nat) := [0, 1, 2, 3, 4].flatMap bitsN
def shapes : List (Nat × Nat) := [(1, 1), (1, 2), (2, 2), (2, 4)]
def codesOf (w m : Nat) : List (List Nat) := (bitsN m).flatMap fun l => (List.range ((codeM w l).length + 1)).map fun k => (codeM w l).take k
theorem mem_bitsN : ∀ {n : Nat} {l : List Nat}, l.length = n → (∀ x ∈ l, x = 48 ∨ x = 49) → l ∈ bitsN n
  | 0, [], _, _ => List.mem_singleton.mpr rfl
  | n + 1, a :: l, hl, h => by
    refine List.mem_flatMap.mpr ⟨l, mem_bitsN (by simpa using hl) (fun x hx => h x (List.mem_cons_of_mem _ hx)), ?_⟩
    rcases h a List.mem_cons_self with e | e <;> subst e <;> simp
theorem mem_allB {l : List Nat} (hn : l.length ≤ 4) (h : ∀ x ∈ l, x = 48 ∨ x = 49) : l ∈ allB := by
  refine List.mem_flatMap.mpr ⟨l.length, ?_, mem_bitsN rfl h⟩
  have : l.length = 0 ∨ l.length = 1 ∨ l.length = 2 ∨ l.length = 3 ∨ l.length = 4 := by omega
  simpa using this
theorem allB_len : ∀ l ∈ allB, l.length ≤ 4 := by decide +kernel
theorem allB_sig : ∀ l ∈ allB, ∀ x ∈ l, x = 48 ∨ x = 49 := by decide +kernel
abbrev sm (x : Int) : Prop := 0 ≤ x ∧ x < 1000000
theorem iv_small : ∀ w ∈ [1, 2], ∀ l ∈ allB, ∀ n ∈ List.range 5, n ≤ l.length → sm (ivM w l n).low ∧ (1 ≤ (ivM w l n).size ∧ (ivM w l n).size < 1000000) ∧ (1 ≤ (ivM w l n).whole ∧ (ivM w l n).whole < 1000000) ∧ (ivM w l n).zs.length = 16 ∧ (ivM w l n).os.length = 16 ∧
    ∀ i ∈ List.range 16, (1 ≤ (ivM w l n).zs.getD i 0 ∧ (ivM w l n).zs.getD i 0 ≤ 5) ∧ (1 ≤ (ivM w l n).os.getD i 0 ∧ (ivM w l n).os.getD i 0 ≤ 5) := by decide +kernel
theorem ctx_small : ∀ w ∈ [1, 2], ∀ l ∈ allB, ∀ p ∈ List.range 5, ctxM w l p < 16 := by decide +kernel
theorem sh_small : ∀ w ∈ [1, 2], ∀ l ∈ allB, ∀ p ∈ List.range 5, p ≤ l.length → (1 ≤ (shM w l p p).1 ∧ (shM w l p p).1 ≤ 5) ∧ (1 ≤ (shM w l p p).2 ∧ (shM w l p p).2 ≤ 5) := by decide +kernel
theorem code_ok : ∀ w ∈ [1, 2], ∀ l ∈ allB, codeOk (ivM w l l.length) (many (ivM w l l.length)) = true ∧ many (ivM w l l.length) ≤ 20 ∧ bits0 (ivM w l l.length) ≤ many (ivM w l l.length) ∧ 1 ≤ Builtin.Int.intBits ((ivM w l l.length).whole.fdiv (ivM w l l.length).size) ∧
    ∀ m ∈ List.range 21, bits0 (ivM w l l.length) ≤ m → (m ≤ many (ivM w l l.length) → sm (firstM (ivM w l l.length) m)) ∧ (m < many (ivM w l l.length) → codeOk (ivM w l l.length) m = false) := by decide +kernel
theorem code_len : ∀ w ∈ [1, 2], ∀ l ∈ allB, (codeM w l).length ≤ 20 ∧ ∀ x ∈ codeM w l, x = 48 ∨ x = 49 := by decide +kernel
theorem next_small : ∀ s ∈ shapes, ∀ c ∈ codesOf s.1 s.2, c.length ≤ 20 ∧ sm (valM c) ∧ ∀ x ∈ c, x = 48 ∨ x = 49 := by decide +kernel
/-- every prefix of a packet's code is read: to the bits or to a part of them; all of it to the bits -/
theorem find_ok : ∀ s ∈ shapes, ∀ l ∈ bitsN s.2, (∀ k ∈ List.range ((codeM s.1 l).length + 1), ∃ p ∈ (List.range (s.2 + 1)).map (fun j => l.take j), findM s.1 s.2 ((codeM s.1 l).take k) = some p) ∧ findM s.1 s.2 (codeM s.1 l) = some l ∧ 1 ≤ (codeM s.1 l).length := by decide +kernel

end PP
namespace PP
open PySem PySem.Spec PyProof.Rows L2
/-- a name's new value, in a state that is written out -/
local macro_rules | `(tactic| walk_at "set") => `(tactic| (simp only [List.set_cons_succ, List.set_cons_zero]; exact rfl))
local macro_rules | `(tactic| walk_at "start") => `(tactic| (refine g_start (σ' := ?sgm) ?hstart ?_; (case hstart => (simp only [start_eS, start_eN, start_e0]; exact rfl))))
/-- one step of a reading -/
local macro_rules | `(tactic| walk_at "g1") => `(tactic| first
  | ((with_reducible refine g_var (v := ?vv) ?hvv ?_); (case hvv => exact rfl))
  | ((with_reducible refine g_nxS (σ' := ?sgm) ?hset ?_); (case hset => walk_at "set"))
  | ((with_reducible refine g_gnameS (σ' := ?sgm) ?hset ?_); (case hset => walk_at "set"))
  | with_reducible first
    | refine g_c ?_
    | refine g_op ?_
    | refine g_I0 ?_
    | refine g_tst ?_
    | refine g_blc ?_
    | refine g_seq ?_
    | refine g_set ?_
    | refine g_ret ?_
    | refine g_if ?_
    | refine g_and ?_
    | refine g_not ?_
    | refine g_eqI ?_
    | refine g_eqS ?_
    | refine g_cons ?_
    | refine g_nil ?_
    | refine g_call ?_
    | refine g_cb ?_
    | refine g_ifE ?_
    | refine g_tup ?_
    | refine g_nx ?_
    | refine g_rt ?_
    | refine g_nxt ?_
    | refine g_for ?_
    | refine g_rng1 ?_
    | refine g_rngN (by omega) ?_
    | refine g_istr ?_
    | refine g_istrc ?_
    | refine g_chain ?_
    | refine g_gname ?_
    | refine g_lc ?_
    | refine g_m1 ?_
    | refine g_m1c ?_
    | refine g_rev ?_
    | refine g_rg1 ?_
    | refine g_revN (by omega) ?_
    | refine g_ifC1 ?_
    | refine g_ifCI ?_
    | refine g_yes ?_
    | refine g_true ?_
    | refine g_dT (by omega) ?_
    | refine g_dF (by omega) ?_
    | refine g_ndF (by omega) ?_
  | ((with_reducible refine ⟨tx _, rfl, sz_tx ?hzt, ?_⟩); (case hzt => first | omega | (simp only [List.length_nil, List.length_cons, List.length_append]; omega)); rw [tx_len])
  | with_reducible refine g_exI ?_
  | ((with_reducible refine g_I ?hcc ?_); (case hcc => first | (intro hz; omega) | omega | exact Or.inl (by omega) | exact Or.inr (by omega) | exact ⟨by omega, by omega, by omega⟩ | exact ⟨by omega, by omega⟩)))
local macro_rules | `(tactic| walk_at "go") => `(tactic| repeat (walk_at "g1"))
/-- if c: x = an int, joined -/
local macro_rules | `(tactic| walk_at "when") => `(tactic| (refine g_whenI (i0 := ?wj) (i1 := ?wi) ?wo ?wh ?_; (case wo => exact rfl); (case wh => (intro hw Q' hq; walk_at "go"; exact hq))))
/-- a heap that has only grown -/
local macro_rules | `(tactic| walk_at "same") => `(tactic| repeat (first | exact Same.refl _ | assumption | refine L2.Same.new ?_ (by assumption)))
/-- what stands at a place of a heap that has only grown -/
local macro_rules | `(tactic| walk_at "get") => `(tactic| repeat (first | exact upd_same | assumption | refine upd_get (by assumption) ?_))
def sp_context : Sp := fun vs H Q _ => ∃ (w p : Nat) (l : List Nat), vs = [.int w, .str (tx l), .int p] ∧ 1 ≤ w ∧ p ≤ l.length ∧ l.length ≤ 1000 ∧ Q (.int (ctxM w l p)) H
theorem fmod_nat (p w : Nat) : (p : Int).fmod (w : Int) = ((p % w : Nat) : Int) := by
  rw [Int.fmod_eq_emod_of_nonneg _ (by omega)]
  exact (Int.natCast_emod p w).symm
theorem q_int {Q : VK} {H : Hp} {i j : Int} (q : Q (.int j) H) (e : i = j) : Q (.int i) H := by rw [e]; exact q
section
variable {P : Program} {wd : World} {K : PySem.W.Frag} {mg : Str → Option Value} {base : Heap} {CF CA CP : Addr}

theorem sc_context : FnScope ["width", "bits", "place", "total", "column"] ["width", "bits", "place"] (defScope s_context) := ⟨rfl, rfl, rfl, by decide +kernel, rfl, by decide +kernel, by decide +kernel⟩
theorem cal_context (T : Tx K mg CF CA CP) : Cal P wd K mg base 1 "context" ["width", "bits", "place"] sp_context := by
  refine T.cal (d := d_context) 14 rfl sc_context (fun _ _ _ _ _ _ us hl => match us, hl with | [_, _, _], _ => rfl) (fun vs H Q E h => ?_) (fun f cdv A outer s H vs Q E hr h => ?_)
  · obtain ⟨w, p, l, rfl, _⟩ := h
    rfl
  · obtain ⟨w, p, l, rfl, hw, hp, hl, k⟩ := h
    refine ⟨_, (pss_cons (ps_set (i := 3) sc_context.nd rfl (by first | exact Or.inl rfl | exact Or.inr rfl) pe_int)
      (pss_cons (ps_set (i := 4) sc_context.nd rfl (by first | exact Or.inl rfl | exact Or.inr rfl) (pe_op op_modN (pv 2) (pv 0)))
      (pss_cons (ps_if (PW.pt (pw_and (pt_cmpR op_gt (pv 4) pe_int (nomark _)) (pw_and1 (pt_cmpR op_eq (pe_ix ix_str (pv 1) (pe_op op_sub (pv 2) pe_int) (fun _ _ => rfl)) (pe_tx tx1) (nomark _)))))
      (pss_one (ps_set (i := 3) sc_context.nd rfl (by first | exact Or.inl rfl | exact Or.inr rfl) (pe_op op_add (pv 3) pe_int)))
      pss_nil)
      (pss_cons (ps_if (pt_cmpR op_lt (pv 2) (pv 0) (nomark _))
      (pss_one (ps_ret (pv 3)))
      pss_nil)
      (pss_cons (ps_if (PW.pt (pw_and (pt_cmpR op_gt (pv 4) pe_int (nomark _)) (pw_and1 (pt_cmpR op_eq (pe_ix ix_str (pv 1) (pe_op op_sub (pe_op op_sub (pv 2) (pv 0)) pe_int) (fun _ _ => rfl)) (pe_tx tx1) (nomark _)))))
      (pss_one (ps_set (i := 3) sc_context.nd rfl (by first | exact Or.inl rfl | exact Or.inr rfl) (pe_op op_add (pv 3) pe_int)))
      pss_nil)
      (pss_cons (ps_if (pt_cmpR op_eq (pe_ix ix_str (pv 1) (pe_op op_sub (pv 2) (pv 0)) (fun _ _ => rfl)) (pe_tx tx1) (nomark _))
      (pss_one (ps_set (i := 3) sc_context.nd rfl (by first | exact Or.inl rfl | exact Or.inr rfl) (pe_op op_add (pv 3) pe_int)))
      pss_nil)
      (pss_cons (ps_if (PW.pt (pw_and (pt_cmpR op_lt (pe_op op_add (pv 4) pe_int) (pv 0) (nomark _)) (pw_and1 (pt_cmpR op_eq (pe_ix ix_str (pv 1) (pe_op op_add (pe_op op_sub (pv 2) (pv 0)) pe_int) (fun _ _ => rfl)) (pe_tx tx1) (nomark _)))))
      (pss_one (ps_set (i := 3) sc_context.nd rfl (by first | exact Or.inl rfl | exact Or.inr rfl) (pe_op op_add (pv 3) pe_int)))
      pss_nil)
      (pss_one (ps_ret (pv 3)))))))))), ?_⟩
    walk_at "start"
    have hml := Nat.mod_le p w
    have em := fmod_nat p w
    walk_at "go"
    rw [em]
    refine g_andJ (b2 := decide (l.getD (p - 1) 0 = 49)) (fun hb R' hq => ?_) ?_
    · have hb := of_decide_eq_true hb
      walk_at "go"
      refine g_ixS (p - 1) (by omega) (by omega) (by omega) ?_
      walk_at "go"
      exact hq
    walk_at "when"
    walk_at "go"
    refine g_ite (fun hb => ?_) (fun hb => ?_)
    · have hb := of_decide_eq_true hb
      walk_at "go"
      refine q_int k ?_
      unfold ctxM
      rw [if_pos (show p < w by omega)]
      have e1 : decide ((0 : Int) < ((p % w : Nat) : Int)) = decide (0 < p % w) := by rw [decide_eq_decide]; omega
      rw [e1]
      by_cases h1 : 0 < p % w <;> by_cases h2 : l.getD (p - 1) 0 = 49 <;> simp only [h1, h2, decide_true, decide_false, Bool.and_true, Bool.and_false, Bool.true_and, Bool.false_and, if_true, if_false, and_self, and_true, true_and, and_false, false_and, Bool.false_eq_true] <;> rfl
    · have hb := of_decide_eq_false hb
      walk_at "go"
      refine g_andJ (b2 := decide (l.getD (p - w - 1) 0 = 49)) (fun hb R' hq => ?_) ?_
      · have hb := of_decide_eq_true hb
        walk_at "go"
        have hne : p ≠ w := fun e => by rw [e, Nat.mod_self] at hb; omega
        refine g_ixS (p - w - 1) (by omega) (by omega) (by omega) ?_
        walk_at "go"
        exact hq
      walk_at "when"
      walk_at "go"
      refine g_ixS (p - w) (by omega) (by omega) (by omega) ?_
      walk_at "go"
      walk_at "when"
      walk_at "go"
      refine g_andJ (b2 := decide (l.getD (p - w + 1) 0 = 49)) (fun hb R' hq => ?_) ?_
      · have hb := of_decide_eq_true hb
        walk_at "go"
        refine g_ixS (p - w + 1) (by omega) (by omega) (by omega) ?_
        walk_at "go"
        exact hq
      walk_at "when"
      walk_at "go"
      refine q_int k ?_
      unfold ctxM
      rw [if_neg (show ¬ p < w by omega)]
      have e1 : decide ((0 : Int) < ((p % w : Nat) : Int)) = decide (0 < p % w) := by rw [decide_eq_decide]; omega
      have e2 : decide (((p % w : Nat) : Int) + 1 < (w : Int)) = decide (p % w + 1 < w) := by rw [decide_eq_decide]; omega
      rw [e1, e2]
      by_cases h1 : 0 < p % w <;> by_cases h2 : l.getD (p - 1) 0 = 49 <;> by_cases h3 : l.getD (p - w - 1) 0 = 49 <;> by_cases h4 : l.getD (p - w) 0 = 49 <;> by_cases h5 : p % w + 1 < w <;> by_cases h6 : l.getD (p - w + 1) 0 = 49 <;> simp only [h1, h2, h3, h4, h5, h6, decide_true, decide_false, Bool.and_true, Bool.and_false, Bool.true_and, Bool.false_and, if_true, if_false, and_self, and_true, true_and, and_false, false_and, Bool.false_eq_true] <;> rfl


def sp_check_width : Sp := fun vs H Q _ => ∃ x : Int, vs = [.int x] ∧ (1 ≤ x ∧ x ≤ 16) ∧ Q .non H
theorem sc_check_width : FnScope ["width"] ["width"] (defScope s_check_width) := ⟨rfl, rfl, rfl, by decide +kernel, rfl, by decide +kernel, by decide +kernel⟩
theorem cal_check_width (T : Tx K mg CF CA CP) : Cal P wd K mg base 1 "check_width" ["width"] sp_check_width := by
  refine T.cal (d := d_check_width) 11 rfl sc_check_width (fun _ _ _ _ _ _ us hl => match us, hl with | [_], _ => rfl) (fun vs H Q E h => ?_) (fun f cdv A outer s H vs Q E hr h => ?_)
  · obtain ⟨x, rfl, _⟩ := h
    rfl
  · obtain ⟨x, rfl, hx, k⟩ := h
    refine ⟨_, (pss_one (ps_if (pt_not (pt_chain op_le op_le pe_int (pv 0) (pe_gi (T.nums 9 _ _ rfl))))
      pss_never
      pss_nil)), ?_⟩
    walk_at "start"
    walk_at "go"
    exact k
def sp_check_count : Sp := fun vs H Q _ => ∃ x : Int, vs = [.int x] ∧ (0 ≤ x ∧ x ≤ 256) ∧ Q .non H
theorem sc_check_count : FnScope ["count"] ["count"] (defScope s_check_count) := ⟨rfl, rfl, rfl, by decide +kernel, rfl, by decide +kernel, by decide +kernel⟩
theorem cal_check_count (T : Tx K mg CF CA CP) : Cal P wd K mg base 1 "check_count" ["count"] sp_check_count := by
  refine T.cal (d := d_check_count) 17 rfl sc_check_count (fun _ _ _ _ _ _ us hl => match us, hl with | [_], _ => rfl) (fun vs H Q E h => ?_) (fun f cdv A outer s H vs Q E hr h => ?_)
  · obtain ⟨x, rfl, _⟩ := h
    rfl
  · obtain ⟨x, rfl, hx, k⟩ := h
    refine ⟨_, (pss_one (ps_if (pt_not (pt_chain op_le op_le pe_int (pv 0) (pe_gi (T.nums 8 _ _ rfl))))
      pss_never
      pss_nil)), ?_⟩
    walk_at "start"
    walk_at "go"
    exact k
def sp_check_bits : Sp := fun vs H Q _ => ∃ l : List Nat, vs = [.str (tx l)] ∧ l.length ≤ 256 ∧ Q .non H
theorem sc_check_bits : FnScope ["bits"] ["bits"] (defScope s_check_bits) := ⟨rfl, rfl, rfl, by decide +kernel, rfl, by decide +kernel, by decide +kernel⟩
theorem cal_check_bits (T : Tx K mg CF CA CP) : Cal P wd K mg base 1 "check_bits" ["bits"] sp_check_bits := by
  refine T.cal (d := d_check_bits) 12 rfl sc_check_bits (fun _ _ _ _ _ _ us hl => match us, hl with | [_], _ => rfl) (fun vs H Q E h => ?_) (fun f cdv A outer s H vs Q E hr h => ?_)
  · obtain ⟨l, rfl, _⟩ := h
    rfl
  · obtain ⟨l, rfl, hx, k⟩ := h
    refine ⟨_, (pss_one (ps_if (pt_cmpR op_gt (pe_callB call_len_str (by rfl) (T.nof _ (fre_len)) PySem.boot_len (pa_cons (pv 0) pa_nil)) (pe_gi (T.nums 8 _ _ rfl)) (nomark _))
      pss_never
      pss_nil)), ?_⟩
    walk_at "start"
    walk_at "go"
    exact k
def sp_check_code : Sp := fun vs H Q _ => ∃ l : List Nat, vs = [.str (tx l)] ∧ l.length ≤ 400 ∧ Q .non H
theorem sc_check_code : FnScope ["code"] ["code"] (defScope s_check_code) := ⟨rfl, rfl, rfl, by decide +kernel, rfl, by decide +kernel, by decide +kernel⟩
theorem cal_check_code (T : Tx K mg CF CA CP) : Cal P wd K mg base 1 "check_code" ["code"] sp_check_code := by
  refine T.cal (d := d_check_code) 13 rfl sc_check_code (fun _ _ _ _ _ _ us hl => match us, hl with | [_], _ => rfl) (fun vs H Q E h => ?_) (fun f cdv A outer s H vs Q E hr h => ?_)
  · obtain ⟨l, rfl, _⟩ := h
    rfl
  · obtain ⟨l, rfl, hx, k⟩ := h
    refine ⟨_, (pss_one (ps_if (pt_cmpR op_gt (pe_callB call_len_str (by rfl) (T.nof _ (fre_len)) PySem.boot_len (pa_cons (pv 0) pa_nil)) (pe_gi (T.nums 10 _ _ rfl)) (nomark _))
      pss_never
      pss_nil)), ?_⟩
    walk_at "start"
    walk_at "go"
    exact k
def sp_shares : Sp := fun vs H Q _ => ∃ (w p : Nat) (l : List Nat), vs = [.int w, .str (tx l), .int p] ∧ 1 ≤ w ∧ p ≤ l.length ∧ l.length ≤ 1000 ∧ ∀ T, H T = none → Q (.ref T) (upd H T (.tup [.int (shM w l p p).1, .int (shM w l p p).2]))
theorem sc_shares : FnScope ["width", "bits", "place", "here", "zeros", "ones", "earlier"] ["width", "bits", "place"] (defScope s_shares) := ⟨rfl, rfl, rfl, by decide +kernel, rfl, by decide +kernel, by decide +kernel⟩
theorem cal_shares (T : Tx K mg CF CA CP) : Cal P wd K mg base 2 "shares" ["width", "bits", "place"] sp_shares := by
  refine T.cal (d := d_shares) 15 rfl sc_shares (fun _ _ _ _ _ _ us hl => match us, hl with | [_, _, _], _ => rfl) (fun vs H Q E h => ?_) (fun f cdv A outer s H vs Q E hr h => ?_)
  · obtain ⟨w, p, l, rfl, _⟩ := h
    rfl
  · obtain ⟨w, p, l, rfl, hw, hp, hl, k⟩ := h
    refine ⟨_, (pss_cons (ps_set (i := 3) sc_shares.nd rfl (by first | exact Or.inl rfl | exact Or.inr rfl) (pe_cal (cal_context T) hr (pa_cons (pv 0) (pa_cons (pv 1) (pa_cons (pv 2) pa_nil)))))
      (pss_cons (ps_set (i := 4) sc_shares.nd rfl (by first | exact Or.inl rfl | exact Or.inr rfl) pe_int)
      (pss_cons (ps_set (i := 5) sc_shares.nd rfl (by first | exact Or.inl rfl | exact Or.inr rfl) pe_int)
      (pss_cons (ps_for PassesOwn.never rfl (pi_range1 (by rfl) (T.nof _ (fre_range)) (pa_cons (pv 2) pa_nil)) (pg_name (i := 6) sc_shares.nd rfl (by first | exact Or.inl rfl | exact Or.inr rfl))
      (pss_one (ps_if (pt_cmpR op_eq (pe_cal (cal_context T) hr (pa_cons (pv 0) (pa_cons (pv 1) (pa_cons (pv 6) pa_nil)))) (pv 3) (nomark _))
      (pss_one (ps_if (pt_cmpR op_eq (pe_ix ix_str (pv 1) (pv 6) (fun _ _ => rfl)) (pe_tx tx1) (nomark _))
      (pss_one (ps_set (i := 5) sc_shares.nd rfl (by first | exact Or.inl rfl | exact Or.inr rfl) (pe_op op_add (pv 5) pe_int)))
      (pss_one (ps_set (i := 4) sc_shares.nd rfl (by first | exact Or.inl rfl | exact Or.inr rfl) (pe_op op_add (pv 4) pe_int)))))
      pss_nil)))
      (pss_one (ps_ret (pe_tup (pa_cons (pv 4) (pa_cons (pv 5) pa_nil))))))))), ?_⟩
    walk_at "start"
    walk_at "go"
    refine ⟨w, p, l, rfl, hw, hp, hl, ?_⟩
    walk_at "go"
    refine g_forV (fun i σ H' => H' = H ∧ ∃ e, σ = [some (.int w), some (.str (tx l)), some (.int p), some (.int (ctxM w l p : Nat)), some (.int (shM w l p i).1), some (.int (shM w l p i).2), e]) (itv_r0 p) (fun _ _ _ _ => trivial) ⟨rfl, none, rfl⟩ (fun i σ H' hi h => ?_) (fun σ H' h => ?_)
    · obtain ⟨e1, e, e2⟩ := h
      subst e1 e2
      walk_at "go"
      refine ⟨w, i, l, rfl, hw, by omega, hl, ?_⟩
      walk_at "go"
      refine g_ite (fun hb => ?_) (fun hb => ?_)
      · have hb : ctxM w l i = ctxM w l p := by
          have := of_decide_eq_true hb
          omega
        walk_at "go"
        refine g_ixS i (by omega) rfl (by omega) ?_
        walk_at "go"
        refine g_ite (fun hc => ?_) (fun hc => ?_)
        · have hc := of_decide_eq_true hc
          walk_at "go"
          refine ⟨rfl, some (.int (i : Nat)), ?_⟩
          rw [shM_succ]
          unfold shStep
          rw [if_pos hb, if_pos hc] <;> rfl
        · have hc := of_decide_eq_false hc
          walk_at "go"
          refine ⟨rfl, some (.int (i : Nat)), ?_⟩
          rw [shM_succ]
          unfold shStep
          rw [if_pos hb, if_neg hc] <;> rfl
      · have hb : ¬ ctxM w l i = ctxM w l p := by
          have := of_decide_eq_false hb
          omega
        walk_at "go"
        refine ⟨rfl, some (.int (i : Nat)), ?_⟩
        rw [shM_succ]
        unfold shStep
        rw [if_neg hb] <;> rfl
    · obtain ⟨e1, e, e2⟩ := h
      subst e1 e2
      walk_at "go"
      exact ⟨sz2, fun p hp => k p hp⟩
def sp_digits_value : Sp := fun vs H Q _ => ∃ (c : List Nat), vs = [.str (tx c)] ∧ c.length ≤ 1000 ∧ Q (.int (valM c)) H
theorem valM_succ (c : List Nat) (i : Nat) (h : i < c.length) : valM (c.take (i + 1)) = valStep (valM (c.take i)) (c.getD i 0) := by
  unfold valM
  rw [List.take_succ_eq_append_getElem h, List.foldl_append, List.getD_eq_getElem?_getD, List.getElem?_eq_getElem h]
  rfl
theorem sc_digits_value : FnScope ["digits", "number", "digit"] ["digits"] (defScope s_digits_value) := ⟨rfl, rfl, rfl, by decide +kernel, rfl, by decide +kernel, by decide +kernel⟩
theorem cal_digits_value (T : Tx K mg CF CA CP) : Cal P wd K mg base 1 "digits_value" ["digits"] sp_digits_value := by
  refine T.cal (d := d_digits_value) 18 rfl sc_digits_value (fun _ _ _ _ _ _ us hl => match us, hl with | [_], _ => rfl) (fun vs H Q E h => ?_) (fun f cdv A outer s H vs Q E hr h => ?_)
  · obtain ⟨c, rfl, _⟩ := h
    rfl
  · obtain ⟨c, rfl, hl, k⟩ := h
    refine ⟨_, (pss_cons (ps_set (i := 1) sc_digits_value.nd rfl (by first | exact Or.inl rfl | exact Or.inr rfl) pe_int)
      (pss_cons (ps_for PassesOwn.never rfl (pi_str (pv 0)) (pg_name (i := 2) sc_digits_value.nd rfl (by first | exact Or.inl rfl | exact Or.inr rfl))
      (pss_one (ps_set (i := 1) sc_digits_value.nd rfl (by first | exact Or.inl rfl | exact Or.inr rfl) (pe_op op_add (pe_op op_mul pe_int (pv 1)) (pe_ifExp (pt_cmpR op_eq (pv 2) (pe_tx tx1) (nomark _)) pe_int pe_int)))))
      (pss_one (ps_ret (pv 1))))), ?_⟩
    walk_at "start"
    walk_at "go"
    refine g_forV (fun i σ H' => H' = H ∧ ∃ e, σ = [some (.str (tx c)), some (.int (valM (c.take i))), e]) (itv_tx c) (fun _ _ _ _ => trivial) ⟨rfl, none, rfl⟩ (fun i σ H' hi h => ?_) (fun σ H' h => ?_)
    · obtain ⟨e1, e, e2⟩ := h
      subst e1 e2
      walk_at "go"
      refine ⟨rfl, some (.str (tx [c.getD i 0])), ?_⟩
      rw [valM_succ c i hi]
      unfold valStep
      simp only [decide_eq_true_eq] <;> rfl
    · obtain ⟨e1, e, e2⟩ := h
      subst e1 e2
      rw [List.take_length]
      walk_at "go"
      exact k
def sp_digits_text : Sp := fun vs H Q _ => ∃ (x : Int) (m : Nat), vs = [.int x, .int m] ∧ m ≤ 1000 ∧ ∀ H', Same H H' → Q (.str (tx (dtextM x m))) H'
theorem sc_digits_text : FnScope ["number", "many", "place"] ["number", "many"] (defScope s_digits_text) := ⟨rfl, rfl, rfl, by decide +kernel, rfl, by decide +kernel, by decide +kernel⟩
theorem cal_digits_text (T : Tx K mg CF CA CP) : Cal P wd K mg base 1 "digits_text" ["number", "many"] sp_digits_text := by
  refine T.cal (d := d_digits_text) 19 rfl sc_digits_text (fun _ _ _ _ _ _ us hl => match us, hl with | [_, _], _ => rfl) (fun vs H Q E h => ?_) (fun f cdv A outer s H vs Q E hr h => ?_)
  · obtain ⟨x, m, rfl, _⟩ := h
    rfl
  · obtain ⟨x, m, rfl, hl, k⟩ := h
    refine ⟨_, (pss_one (ps_ret (pe_join (pe_tx txe) (pe_lc (own := [("place", 2)]) rfl sc_digits_text.nd (pi_revR (by rfl) (T.nof _ (fre_reversed)) (prg_1 (by rfl) (T.nof _ (fre_range)) (pv 1))) (blkOk_by (N := ["number", "many", "place"]) (sc := defScope s_digits_text) (by decide +kernel)) (fun _ _ _ _ _ => (pg_name (i := 2) sc_digits_text.nd rfl (by first | exact Or.inl rfl | exact Or.inr rfl))) (fun _ _ _ _ _ => pts_nil) (fun _ _ _ _ _ => (pe_ifExp (pt_truthI (pe_op op_and (pe_op op_shr (pv 0) (pv 2)) pe_int)) (pe_tx tx1) (pe_tx tx0))))))), ?_⟩
    walk_at "start"
    walk_at "go"
    refine g_lcV (n := m) (fun i acc H2 => acc = ((List.range i).map fun j => if decide ((x / 2 ^ (m - 1 - j)) % 2 = 0) = true then 48 else 49).map fun c => V.str (tx [c])) (by omega) (itv_c _ _ _) (fun _ _ => trivial) rfl (fun D i acc H2 Nx hi hD hH S hI hN KK hK R hR => ?_) (fun D acc H2 hD hH S hI => ?_)
    · walk_at "go"
      refine hR _ _ ⟨rfl, ?_⟩
      walk_at "go"
      refine hK _ _ (Same.refl _) ?_
      rw [hI, List.range_succ, List.map_append, List.map_append]
      congr 1
      show [V.str (tx [_])] = [V.str (tx [_])]
      congr 4
      have e : ((m : Int) - 1 + (i : Int) * -1).toNat = m - 1 - i := by omega
      rw [e, bitAnd_m1]
      show _ = (if decide ((x / 2 ^ (m - 1 - i)) % 2 = 0) = true then 48 else 49)
      by_cases h : (x / 2 ^ (m - 1 - i)) % 2 = 0
      · rw [if_pos (decide_eq_true h), h]
        rfl
      · rw [if_pos (bne_iff_ne.mpr h), decide_eq_false h]
        rfl
    · subst hI
      walk_at "go"
      refine g_join (l := dtextM x m) ?_ (SqL.of hH) (k _ S)
      show ((List.range m).map _).length ≤ 1000
      rw [List.length_map, List.length_range]
      exact hl
end

end PP
namespace PP
open PySem PySem.Spec PyProof.Rows L2
/-- a name's new value, in a state that is written out -/
local macro_rules | `(tactic| walk_at "set") => `(tactic| (simp only [List.set_cons_succ, List.set_cons_zero]; exact rfl))
local macro_rules | `(tactic| walk_at "start") => `(tactic| (refine g_start (σ' := ?sgm) ?hstart ?_; (case hstart => (simp only [start_eS, start_eN, start_e0]; exact rfl))))
/-- one step of a reading -/
local macro_rules | `(tactic| walk_at "g1") => `(tactic| first
  | ((with_reducible refine g_var (v := ?vv) ?hvv ?_); (case hvv => exact rfl))
  | ((with_reducible refine g_nxS (σ' := ?sgm) ?hset ?_); (case hset => walk_at "set"))
  | ((with_reducible refine g_gnameS (σ' := ?sgm) ?hset ?_); (case hset => walk_at "set"))
  | with_reducible first
    | refine g_c ?_
    | refine g_op ?_
    | refine g_I0 ?_
    | refine g_tst ?_
    | refine g_blc ?_
    | refine g_seq ?_
    | refine g_set ?_
    | refine g_ret ?_
    | refine g_if ?_
    | refine g_eqS ?_
    | refine g_un ?_
    | refine g_U ?_
    | refine g_cons ?_
    | refine g_nil ?_
    | refine g_call ?_
    | refine g_drop ?_
    | refine g_tup ?_
    | refine g_lst ?_
    | refine g_nx ?_
    | refine g_rt ?_
    | refine g_nxt ?_
    | refine g_asg ?_
    | refine g_for ?_
    | refine g_gsub ?_
    | refine g_gcons ?_
    | refine g_gnil ?_
    | refine g_m1 ?_
    | refine g_m1c ?_
    | refine g_bits ?_
    | refine g_enumS ?_
  | (with_reducible refine ⟨tx _, tx _, rfl, rfl, sz_cat ?hzc, ?_⟩; (case hzc => first | omega | (simp only [List.length_append, List.length_cons, List.length_nil, List.length_replicate]; omega)); rw [tx_app])
  | (with_reducible refine ⟨tx _, tx _, rfl, rfl, ?_⟩; rw [starts_tx])
  | with_reducible refine g_exI ?_
  | with_reducible refine g_exLS ?_
  | ((with_reducible refine g_I ?hcc ?_); (case hcc => first | (intro hz; omega) | omega | exact Or.inl (by omega) | exact Or.inr (by omega) | exact ⟨by omega, by omega, by omega⟩ | exact ⟨by omega, by omega⟩)))
local macro_rules | `(tactic| walk_at "go") => `(tactic| repeat (walk_at "g1"))
/-- if c: x = an int, joined -/
local macro_rules | `(tactic| walk_at "when") => `(tactic| (refine g_whenI (i0 := ?wj) (i1 := ?wi) ?wo ?wh ?_; (case wo => exact rfl); (case wh => (intro hw Q' hq; walk_at "go"; exact hq))))
/-- a heap that has only grown -/
local macro_rules | `(tactic| walk_at "same") => `(tactic| repeat (first | exact Same.refl _ | assumption | refine L2.Same.new ?_ (by assumption)))
/-- what stands at a place of a heap that has only grown -/
local macro_rules | `(tactic| walk_at "get") => `(tactic| repeat (first | exact upd_same | assumption | refine upd_get (by assumption) ?_))
def DomB (w : Nat) (l : List Nat) : Prop := w ∈ [1, 2] ∧ l ∈ allB
theorem DomB.w1 {w : Nat} {l : List Nat} (h : DomB w l) : 1 ≤ w ∧ w ≤ 2 := by
  have := h.1
  simp at this
  omega
theorem DomB.len {w : Nat} {l : List Nat} (h : DomB w l) : l.length ≤ 4 := allB_len l h.2
theorem DomB.iv {w : Nat} {l : List Nat} (h : DomB w l) {n : Nat} (hn : n ≤ l.length) : sm (ivM w l n).low ∧ (1 ≤ (ivM w l n).size ∧ (ivM w l n).size < 1000000) ∧ (1 ≤ (ivM w l n).whole ∧ (ivM w l n).whole < 1000000) ∧ (ivM w l n).zs.length = 16 ∧ (ivM w l n).os.length = 16 ∧
    ∀ i ∈ List.range 16, (1 ≤ (ivM w l n).zs.getD i 0 ∧ (ivM w l n).zs.getD i 0 ≤ 5) ∧ (1 ≤ (ivM w l n).os.getD i 0 ∧ (ivM w l n).os.getD i 0 ≤ 5) := iv_small w h.1 l h.2 n (List.mem_range.mpr (by have := h.len; omega)) hn
theorem DomB.ctx {w : Nat} {l : List Nat} (h : DomB w l) {p : Nat} (hn : p ≤ l.length) : ctxM w l p < 16 := ctx_small w h.1 l h.2 p (List.mem_range.mpr (by have := h.len; omega))
theorem DomB.sh {w : Nat} {l : List Nat} (h : DomB w l) {p : Nat} (hn : p ≤ l.length) : (1 ≤ (shM w l p p).1 ∧ (shM w l p p).1 ≤ 5) ∧ (1 ≤ (shM w l p p).2 ∧ (shM w l p p).2 ≤ 5) := sh_small w h.1 l h.2 p (List.mem_range.mpr (by have := h.len; omega)) hn
theorem DomB.code {w : Nat} {l : List Nat} (h : DomB w l) : codeOk (ivM w l l.length) (many (ivM w l l.length)) = true ∧ many (ivM w l l.length) ≤ 20 ∧ bits0 (ivM w l l.length) ≤ many (ivM w l l.length) ∧ 1 ≤ Builtin.Int.intBits ((ivM w l l.length).whole.fdiv (ivM w l l.length).size) ∧
    ∀ m ∈ List.range 21, bits0 (ivM w l l.length) ≤ m → (m ≤ many (ivM w l l.length) → sm (firstM (ivM w l l.length) m)) ∧ (m < many (ivM w l l.length) → codeOk (ivM w l l.length) m = false) := code_ok w h.1 l h.2
theorem DomB.codel {w : Nat} {l : List Nat} (h : DomB w l) : (codeM w l).length ≤ 20 ∧ ∀ x ∈ codeM w l, x = 48 ∨ x = 49 := code_len w h.1 l h.2
theorem rep16 {K : PySem.W.Frag} {H : Hp} {a : Addr} {Q : VK} (h : H a = some (.lst [.int 1])) (q : ∀ p, H p = none → Q (.ref p) (upd H p (.lst ((List.replicate 16 (1 : Int)).map V.int)))) : rRep (.ref a) (.int 16) H Q := by
  refine ⟨a, 16, [.int 1], rfl, rfl, h, by decide, by decide, by decide, ?_⟩
  exact q
theorem map_ix {xs : List Int} {n : Nat} (h : n < xs.length) : (xs.map V.int)[n]? = some (.int (xs.getD n 0)) := by
  rw [List.getElem?_map, List.getElem?_eq_getElem h, List.getD_eq_getElem?_getD, List.getElem?_eq_getElem h]
  rfl
section
variable {P : Program} {wd : World} {K : PySem.W.Frag} {mg : Str → Option Value} {base : Heap} {CF CA CP : Addr}

def sp_interval : Sp := fun vs H Q _ => ∃ (w : Nat) (l : List Nat), vs = [.int w, .str (tx l)] ∧ DomB w l ∧ ∀ T H', Same H H' → H' T = some (.tup [.int (ivM w l l.length).low, .int (ivM w l l.length).size, .int (ivM w l l.length).whole]) → Q (.ref T) H'
theorem sc_interval : FnScope ["width", "bits", "low", "size", "whole", "zeros", "ones", "place", "bit", "here", "total"] ["width", "bits"] (defScope s_interval) := ⟨rfl, rfl, rfl, by decide +kernel, rfl, by decide +kernel, by decide +kernel⟩
theorem cal_interval (T : Tx K mg CF CA CP) : Cal P wd K mg base 2 "interval" ["width", "bits"] sp_interval := by
  refine T.cal (d := d_interval) 16 rfl sc_interval (fun _ _ _ _ _ _ us hl => match us, hl with | [_, _], _ => rfl) (fun vs H Q E h => ?_) (fun f cdv A outer s H vs Q E hr h => ?_)
  · obtain ⟨w, l, rfl, _⟩ := h
    rfl
  · obtain ⟨w, l, rfl, hd, k⟩ := h
    refine ⟨_, (pss_cons (ps_asg (pe_tup (pa_cons pe_int (pa_cons pe_int (pa_cons pe_int pa_nil)))) (pg_tupK (K := K) (n := 3) (by rfl) (pgs_cons (pg_name (i := 2) sc_interval.nd rfl (by first | exact Or.inl rfl | exact Or.inr rfl)) (pgs_cons (pg_name (i := 3) sc_interval.nd rfl (by first | exact Or.inl rfl | exact Or.inr rfl)) (pgs_cons (pg_name (i := 4) sc_interval.nd rfl (by first | exact Or.inl rfl | exact Or.inr rfl)) pgs_nil)))))
      (pss_cons (ps_set (i := 5) sc_interval.nd rfl (by first | exact Or.inl rfl | exact Or.inr rfl) (pe_op op_rep (pe_lst (pa_cons pe_int pa_nil)) pe_int))
      (pss_cons (ps_set (i := 6) sc_interval.nd rfl (by first | exact Or.inl rfl | exact Or.inr rfl) (pe_op op_rep (pe_lst (pa_cons pe_int pa_nil)) pe_int))
      (pss_cons (ps_for PassesOwn.never rfl (pi_enumS (by rfl) (T.nof _ (fre_enumerate)) (pa_cons (pv 1) pa_nil)) (pg_tupK (K := K) (n := 2) (by rfl) (pgs_cons (pg_name (i := 7) sc_interval.nd rfl (by first | exact Or.inl rfl | exact Or.inr rfl)) (pgs_cons (pg_name (i := 8) sc_interval.nd rfl (by first | exact Or.inl rfl | exact Or.inr rfl)) pgs_nil)))
      (pss_cons (ps_set (i := 9) sc_interval.nd rfl (by first | exact Or.inl rfl | exact Or.inr rfl) (pe_cal (cal_context T) hr (pa_cons (pv 0) (pa_cons (pv 1) (pa_cons (pv 7) pa_nil)))))
      (pss_cons (ps_set (i := 10) sc_interval.nd rfl (by first | exact Or.inl rfl | exact Or.inr rfl) (pe_op op_add (pe_ix (ix_listK (K := K)) (pv 5) (pv 9) (fun _ _ => rfl)) (pe_ix (ix_listK (K := K)) (pv 6) (pv 9) (fun _ _ => rfl))))
      (pss_cons (ps_set (i := 2) sc_interval.nd rfl (by first | exact Or.inl rfl | exact Or.inr rfl) (pe_op op_mul (pv 2) (pv 10)))
      (pss_cons (ps_set (i := 4) sc_interval.nd rfl (by first | exact Or.inl rfl | exact Or.inr rfl) (pe_op op_mul (pv 4) (pv 10)))
      (pss_one (ps_if (pt_cmpR op_eq (pv 8) (pe_tx tx1) (nomark _))
      (pss_cons (ps_set (i := 2) sc_interval.nd rfl (by first | exact Or.inl rfl | exact Or.inr rfl) (pe_op op_add (pv 2) (pe_op op_mul (pv 3) (pe_ix (ix_listK (K := K)) (pv 5) (pv 9) (fun _ _ => rfl)))))
      (pss_cons (ps_set (i := 3) sc_interval.nd rfl (by first | exact Or.inl rfl | exact Or.inr rfl) (pe_op op_mul (pv 3) (pe_ix (ix_listK (K := K)) (pv 6) (pv 9) (fun _ _ => rfl))))
      (pss_one (ps_asg (pe_op op_add (pe_ix (ix_listK (K := K)) (pv 6) (pv 9) (fun _ _ => rfl)) pe_int) (pg_sub (pv 6) (pv 9) set_list)))))
      (pss_cons (ps_set (i := 3) sc_interval.nd rfl (by first | exact Or.inl rfl | exact Or.inr rfl) (pe_op op_mul (pv 3) (pe_ix (ix_listK (K := K)) (pv 5) (pv 9) (fun _ _ => rfl))))
      (pss_one (ps_asg (pe_op op_add (pe_ix (ix_listK (K := K)) (pv 5) (pv 9) (fun _ _ => rfl)) pe_int) (pg_sub (pv 5) (pv 9) set_list)))))))))))
      (pss_one (ps_ret (pe_tup (pa_cons (pv 2) (pa_cons (pv 3) (pa_cons (pv 4) pa_nil)))))))))), ?_⟩
    walk_at "start"
    walk_at "go"
    refine ⟨sz3, fun p0 h0 => ?_⟩
    refine g_gtup (SqT.of upd_same) rfl ?_
    walk_at "go"
    refine ⟨sz1, fun p1 h1 => ?_⟩
    walk_at "go"
    refine rep16 (K := K) upd_same (fun p5 h5 => ?_)
    walk_at "go"
    refine ⟨sz1, fun p2 h2 => ?_⟩
    walk_at "go"
    refine rep16 (K := K) upd_same (fun p6 h6 => ?_)
    walk_at "go"
    have n5 : H p5 = none := by
      refine Same.free (H' := upd (upd H p0 (.tup [.int 0, .int 1, .int 1])) p1 (.lst [.int 1])) ?_ h5
      walk_at "same"
    have n6 : H p6 = none := by
      refine Same.free ?_ h6
      walk_at "same"
    have n56 : p5 ≠ p6 := by
      refine ne_new h6 (upd_get h2 upd_same)
    refine g_forT (fun i σ H' => Same H H' ∧ H' p5 = some (.lst ((ivM w l i).zs.map V.int)) ∧ H' p6 = some (.lst ((ivM w l i).os.map V.int)) ∧ ∃ e7 e8 e9 e10, σ = [some (.int w), some (.str (tx l)), some (.int (ivM w l i).low), some (.int (ivM w l i).size), some (.int (ivM w l i).whole), some (.ref p5), some (.ref p6), e7, e8, e9, e10])
      (itt_p l.length _ _) (fun _ _ _ _ => trivial) ⟨by walk_at "same", by walk_at "get", upd_same, none, none, none, none, rfl⟩ (fun i σ H' T hi h hT => ?_) (fun σ H' h => ?_)
    · obtain ⟨S, hz, ho, e7, e8, e9, e10, e⟩ := h
      subst e
      obtain ⟨b1, b2, b3, b4, b5, b6⟩ := hd.iv (Nat.le_of_lt hi)
      have hc := hd.ctx (Nat.le_of_lt hi)
      have b6 := b6 _ (List.mem_range.mpr hc)
      have hw := hd.w1
      have hl := hd.len
      have ez := ivM_succ w l i
      refine g_gtup (SqT.of upd_same) rfl ?_
      rw [sgn_tx]
      walk_at "go"
      refine ⟨w, i, l, rfl, by omega, by omega, by omega, ?_⟩
      have hz2 : (upd H' T (.tup [.int (i : Nat), .str (tx [l.getD i 0])])) p5 = some (.lst ((ivM w l i).zs.map V.int)) := by walk_at "get"
      have ho2 : (upd H' T (.tup [.int (i : Nat), .str (tx [l.getD i 0])])) p6 = some (.lst ((ivM w l i).os.map V.int)) := by walk_at "get"
      have S5 : Same H (upd H' T (.tup [.int (i : Nat), .str (tx [l.getD i 0])])) := S.new hT
      walk_at "go"
      refine g_ixL _ (SqL.of hz2) rfl (map_ix (by omega)) ?_
      walk_at "go"
      refine g_ixL _ (SqL.of ho2) rfl (map_ix (by omega)) ?_
      walk_at "go"
      refine g_ite (fun hb => ?_) (fun hb => ?_)
      · have hb := of_decide_eq_true hb
        walk_at "go"
        refine g_ixL _ (SqL.of hz2) rfl (map_ix (by omega)) ?_
        walk_at "go"
        refine g_ixL _ (SqL.of ho2) rfl (map_ix (by omega)) ?_
        walk_at "go"
        refine g_ixL _ (SqL.of ho2) rfl (map_ix (by omega)) ?_
        walk_at "go"
        refine g_setL _ ho2 rfl (by rw [List.length_map]; omega) ?_
        walk_at "go"
        have ez2 := ez.trans (if_pos hb)
        rw [ez2]
        refine ⟨S5.set n6, ?_, ?_, _, _, _, _, rfl⟩
        · rw [upd_ne n56]
          exact hz2
        · rw [upd_same, List.map_set] <;> rfl
      · have hb := of_decide_eq_false hb
        walk_at "go"
        refine g_ixL _ (SqL.of hz2) rfl (map_ix (by omega)) ?_
        walk_at "go"
        refine g_ixL _ (SqL.of hz2) rfl (map_ix (by omega)) ?_
        walk_at "go"
        refine g_setL _ hz2 rfl (by rw [List.length_map]; omega) ?_
        walk_at "go"
        have ez2 := ez.trans (if_neg hb)
        rw [ez2]
        refine ⟨S5.set n5, ?_, ?_, _, _, _, _, rfl⟩
        · rw [upd_same, List.map_set] <;> rfl
        · rw [upd_ne (Ne.symm n56)]
          exact ho2
    · obtain ⟨S, hz, ho, e7, e8, e9, e10, e⟩ := h
      subst e
      walk_at "go"
      exact ⟨sz3, fun p hp => k p _ (S.new hp) upd_same⟩

def sp_code : Sp := fun vs H Q _ => ∃ (w : Nat) (l : List Nat), vs = [.int w, .str (tx l)] ∧ DomB w l ∧ ∀ H', Same H H' → Q (.str (tx (codeM w l))) H'
theorem sc_code : FnScope ["width", "bits", "low", "size", "whole", "many", "first"] ["width", "bits"] (defScope s_code) := ⟨rfl, rfl, rfl, by decide +kernel, rfl, by decide +kernel, by decide +kernel⟩
theorem cal_code (T : Tx K mg CF CA CP) : Cal P wd K mg base 3 "_code" ["width", "bits"] sp_code := by
  refine T.cal (d := d_code) 20 rfl sc_code (fun _ _ _ _ _ _ us hl => match us, hl with | [_, _], _ => rfl) (fun vs H Q E h => ?_) (fun f cdv A outer s H vs Q E hr h => ?_)
  · obtain ⟨w, l, rfl, _⟩ := h
    rfl
  · obtain ⟨w, l, rfl, hd, k⟩ := h
    refine ⟨_, (pss_cons (ps_asg (pe_cal (cal_interval T) hr (pa_cons (pv 0) (pa_cons (pv 1) pa_nil))) (pg_tupK (K := K) (n := 3) (by rfl) (pgs_cons (pg_name (i := 2) sc_code.nd rfl (by first | exact Or.inl rfl | exact Or.inr rfl)) (pgs_cons (pg_name (i := 3) sc_code.nd rfl (by first | exact Or.inl rfl | exact Or.inr rfl)) (pgs_cons (pg_name (i := 4) sc_code.nd rfl (by first | exact Or.inl rfl | exact Or.inr rfl)) pgs_nil)))))
      (pss_cons (ps_set (i := 5) sc_code.nd rfl (by first | exact Or.inl rfl | exact Or.inr rfl) (pe_op op_sub (pe_bits (pe_op op_fdivN (pv 4) (pv 3))) pe_int))
      (pss_one (ps_while PassesOwn.never (pt_val pe_bl)
      (pss_cons (ps_set (i := 6) sc_code.nd rfl (by first | exact Or.inl rfl | exact Or.inr rfl) (pe_un un_neg (pe_op op_fdivN (pe_op op_shl (pe_un un_neg (pv 2)) (pv 5)) (pv 4))))
      (pss_cons (ps_if (pt_cmpR op_le (pe_op op_mul (pe_op op_add (pv 6) pe_int) (pv 4)) (pe_op op_shl (pe_op op_add (pv 2) (pv 3)) (pv 5)) (nomark _))
      (pss_one (ps_ret (pe_cal (cal_digits_text T) hr (pa_cons (pv 6) (pa_cons (pv 5) pa_nil)))))
      pss_nil)
      (pss_one (ps_set (i := 5) sc_code.nd rfl (by first | exact Or.inl rfl | exact Or.inr rfl) (pe_op op_add (pv 5) pe_int))))))))), ?_⟩
    walk_at "start"
    obtain ⟨a1, a2, a3, a5, a4⟩ := hd.code
    obtain ⟨b1, b2, b3, b4, b5, b6⟩ := hd.iv (Nat.le_refl _)
    walk_at "go"
    refine ⟨w, l, rfl, hd, fun T H1 S1 hT => ?_⟩
    refine g_gtup (SqT.of hT) rfl ?_
    walk_at "go"
    refine g_whileT (fun m σ H' => H' = H1 ∧ ∃ (j : Nat) (e : Option V), bits0 (ivM w l l.length) ≤ j ∧ j + m = many (ivM w l l.length) ∧ σ = [some (.int w), some (.str (tx l)), some (.int (ivM w l l.length).low), some (.int (ivM w l l.length).size), some (.int (ivM w l l.length).whole), some (.int (j : Nat)), e]) (many (ivM w l l.length) - bits0 (ivM w l l.length)) ⟨rfl, bits0 (ivM w l l.length), none, Nat.le_refl _, by omega, ?_⟩ (fun m σ H' h => ?_)
    · have e : ((Builtin.Int.intBits ((ivM w l l.length).whole.fdiv (ivM w l l.length).size) : Nat) : Int) - 1 = ((bits0 (ivM w l l.length) : Nat) : Int) := by
        unfold bits0
        omega
      rw [e] <;> rfl
    · obtain ⟨e1, j, e, hj, hm, e2⟩ := h
      subst e1 e2
      obtain ⟨c1, c2⟩ := a4 j (List.mem_range.mpr (by omega)) hj
      have c1 := c1 (by omega)
      walk_at "go"
      refine g_ite (fun hb => ?_) (fun hb => ?_)
      · have hb : codeOk (ivM w l l.length) j = true := hb
        have hm : j = many (ivM w l l.length) := by
          by_cases q : j < many (ivM w l l.length)
          · rw [c2 q] at hb
            cases hb
          · omega
        subst hm
        walk_at "go"
        refine ⟨firstM (ivM w l l.length) (many (ivM w l l.length)), many (ivM w l l.length), rfl, by omega, fun H2 S2 => ?_⟩
        exact k _ (S1.trans S2)
      · have hb : codeOk (ivM w l l.length) j = false := hb
        have hm : j ≠ many (ivM w l l.length) := by
          intro q
          rw [q, a1] at hb
          cases hb
        walk_at "go"
        exact ⟨m - 1, by omega, rfl, j + 1, _, by omega, by omega, rfl⟩

def sp_encode : Sp := fun vs H Q _ => ∃ (w : Nat) (l : List Nat), vs = [.int w, .str (tx l)] ∧ DomB w l ∧ ∀ H', Same H H' → Q (.str (tx (codeM w l))) H'
theorem sc_encode : FnScope ["width", "bits"] ["width", "bits"] (defScope s_encode) := ⟨rfl, rfl, rfl, by decide +kernel, rfl, by decide +kernel, by decide +kernel⟩
theorem cal_encode (T : Tx K mg CF CA CP) : Cal P wd K mg base 4 "encode" ["width", "bits"] sp_encode := by
  refine T.cal (d := d_encode) 21 rfl sc_encode (fun _ _ _ _ _ _ us hl => match us, hl with | [_, _], _ => rfl) (fun vs H Q E h => ?_) (fun f cdv A outer s H vs Q E hr h => ?_)
  · obtain ⟨w, l, rfl, _⟩ := h
    rfl
  · obtain ⟨w, l, rfl, hd, k⟩ := h
    refine ⟨_, (pss_cons (ps_expr (pe_cal (cal_check_width T) hr (pa_cons (pv 0) pa_nil)))
      (pss_cons (ps_expr (pe_cal (cal_check_bits T) hr (pa_cons (pv 1) pa_nil)))
      (pss_one (ps_ret (pe_cal (cal_code T) hr (pa_cons (pv 0) (pa_cons (pv 1) pa_nil))))))), ?_⟩
    walk_at "start"
    have hw := hd.w1
    have hl := hd.len
    walk_at "go"
    refine ⟨w, rfl, by omega, ?_⟩
    walk_at "go"
    refine ⟨l, rfl, by omega, ?_⟩
    walk_at "go"
    exact ⟨w, l, rfl, hd, fun H' S => k H' S⟩
def sp_opens : Sp := fun vs H Q _ => ∃ (w : Nat) (c l : List Nat), vs = [.int w, .str (tx c), .str (tx l)] ∧ DomB w l ∧ c.length ≤ 1000 ∧ ∀ H', Same H H' → Q (.bl (opensM w c l)) H'
theorem sc_opens : FnScope ["width", "code", "bits"] ["width", "code", "bits"] (defScope s_opens) := ⟨rfl, rfl, rfl, by decide +kernel, rfl, by decide +kernel, by decide +kernel⟩
theorem cal_opens (T : Tx K mg CF CA CP) : Cal P wd K mg base 4 "opens" ["width", "code", "bits"] sp_opens := by
  refine T.cal (d := d_opens) 22 rfl sc_opens (fun _ _ _ _ _ _ us hl => match us, hl with | [_, _, _], _ => rfl) (fun vs H Q E h => ?_) (fun f cdv A outer s H vs Q E hr h => ?_)
  · obtain ⟨w, c, l, rfl, _⟩ := h
    rfl
  · obtain ⟨w, c, l, rfl, hd, hc, k⟩ := h
    refine ⟨_, (pss_one (ps_ret (pe_m1 PySem.F.slot_str_startswith PySem.F.type_str_startswith mt_startswith (pe_cal (cal_code T) hr (pa_cons (pv 0) (pa_cons (pv 2) pa_nil))) (pv 1)))), ?_⟩
    walk_at "start"
    walk_at "go"
    refine ⟨w, l, rfl, hd, fun H' S => ?_⟩
    walk_at "go"
    exact k H' S
def sp_last_with_zero : Sp := fun vs H Q _ => ∃ (l : List Nat) (n : Nat), vs = [.str (tx l), .int n] ∧ l.length ≤ 1000 ∧ n ≤ 1000 ∧ Q (.str (tx (l ++ [48] ++ List.replicate n 49))) H
theorem sc_last_with_zero : FnScope ["bits", "more"] ["bits", "more"] (defScope s_last_with_zero) := ⟨rfl, rfl, rfl, by decide +kernel, rfl, by decide +kernel, by decide +kernel⟩
theorem cal_last_with_zero (T : Tx K mg CF CA CP) : Cal P wd K mg base 1 "last_with_zero" ["bits", "more"] sp_last_with_zero := by
  refine T.cal (d := d_last_with_zero) 23 rfl sc_last_with_zero (fun _ _ _ _ _ _ us hl => match us, hl with | [_, _], _ => rfl) (fun vs H Q E h => ?_) (fun f cdv A outer s H vs Q E hr h => ?_)
  · obtain ⟨l, n, rfl, _⟩ := h
    rfl
  · obtain ⟨l, n, rfl, hl, hn, k⟩ := h
    refine ⟨_, (pss_one (ps_ret (pe_op op_add_str (pe_op op_add_str (pv 0) (pe_tx tx0)) (pe_op op_mulS (pe_tx tx1) (pv 1))))), ?_⟩
    walk_at "start"
    walk_at "go"
    refine g_mulS hn ?_
    walk_at "go"
    exact k
def sp_first_with_one : Sp := fun vs H Q _ => ∃ (l : List Nat) (n : Nat), vs = [.str (tx l), .int n] ∧ l.length ≤ 1000 ∧ n ≤ 1000 ∧ Q (.str (tx (l ++ [49] ++ List.replicate n 48))) H
theorem sc_first_with_one : FnScope ["bits", "more"] ["bits", "more"] (defScope s_first_with_one) := ⟨rfl, rfl, rfl, by decide +kernel, rfl, by decide +kernel, by decide +kernel⟩
theorem cal_first_with_one (T : Tx K mg CF CA CP) : Cal P wd K mg base 1 "first_with_one" ["bits", "more"] sp_first_with_one := by
  refine T.cal (d := d_first_with_one) 24 rfl sc_first_with_one (fun _ _ _ _ _ _ us hl => match us, hl with | [_, _], _ => rfl) (fun vs H Q E h => ?_) (fun f cdv A outer s H vs Q E hr h => ?_)
  · obtain ⟨l, n, rfl, _⟩ := h
    rfl
  · obtain ⟨l, n, rfl, hl, hn, k⟩ := h
    refine ⟨_, (pss_one (ps_ret (pe_op op_add_str (pe_op op_add_str (pv 0) (pe_tx tx1)) (pe_op op_mulS (pe_tx tx0) (pv 1))))), ?_⟩
    walk_at "start"
    walk_at "go"
    refine g_mulS hn ?_
    walk_at "go"
    exact k
end

end PP
namespace PP
open PySem PySem.Spec PyProof.Rows L2
/-- a name's new value, in a state that is written out -/
local macro_rules | `(tactic| walk_at "set") => `(tactic| (simp only [List.set_cons_succ, List.set_cons_zero]; exact rfl))
local macro_rules | `(tactic| walk_at "start") => `(tactic| (refine g_start (σ' := ?sgm) ?hstart ?_; (case hstart => (simp only [start_eS, start_eN, start_e0]; exact rfl))))
/-- one step of a reading -/
local macro_rules | `(tactic| walk_at "g1") => `(tactic| first
  | ((with_reducible refine g_var (v := ?vv) ?hvv ?_); (case hvv => exact rfl))
  | ((with_reducible refine g_nxS (σ' := ?sgm) ?hset ?_); (case hset => walk_at "set"))
  | ((with_reducible refine g_gnameS (σ' := ?sgm) ?hset ?_); (case hset => walk_at "set"))
  | with_reducible first
    | refine g_c ?_
    | refine g_op ?_
    | refine g_I0 ?_
    | refine g_tst ?_
    | refine g_blc ?_
    | refine g_seq ?_
    | refine g_set ?_
    | refine g_ret ?_
    | refine g_if ?_
    | refine g_and ?_
    | refine g_B ?_
    | refine g_cons ?_
    | refine g_nil ?_
    | refine g_call ?_
    | refine g_cb ?_
    | refine g_ifE ?_
    | refine g_rt ?_
    | refine g_nxt ?_
    | refine g_asg ?_
    | refine g_gcons ?_
    | refine g_gnil ?_
    | refine g_ifCS ?_
    | refine g_true ?_
    | refine g_false ?_
  | ((with_reducible refine ⟨tx _, rfl, sz_tx ?hzt, ?_⟩); (case hzt => first | omega | (simp only [List.length_nil, List.length_cons, List.length_append]; omega)); rw [tx_len])
  | ((with_reducible refine g_I ?hcc ?_); (case hcc => first | (intro hz; omega) | omega | exact Or.inl (by omega) | exact Or.inr (by omega) | exact ⟨by omega, by omega, by omega⟩ | exact ⟨by omega, by omega⟩)))
local macro_rules | `(tactic| walk_at "go") => `(tactic| repeat (walk_at "g1"))
/-- if c: x = an int, joined -/
local macro_rules | `(tactic| walk_at "when") => `(tactic| (refine g_whenI (i0 := ?wj) (i1 := ?wi) ?wo ?wh ?_; (case wo => exact rfl); (case wh => (intro hw Q' hq; walk_at "go"; exact hq))))
/-- a heap that has only grown -/
local macro_rules | `(tactic| walk_at "same") => `(tactic| repeat (first | exact Same.refl _ | assumption | refine L2.Same.new ?_ (by assumption)))
/-- what stands at a place of a heap that has only grown -/
local macro_rules | `(tactic| walk_at "get") => `(tactic| repeat (first | exact upd_same | assumption | refine upd_get (by assumption) ?_))
/-! ### the coder's reading side -/
def DomC (w m : Nat) (c : List Nat) : Prop := (w, m) ∈ shapes ∧ c ∈ codesOf w m
theorem DomC.wm {w m : Nat} {c : List Nat} (h : DomC w m c) : (w = 1 ∨ w = 2) ∧ 1 ≤ m ∧ m ≤ 4 := by
  have := h.1
  unfold shapes at this
  simp only [List.mem_cons, Prod.mk.injEq, List.not_mem_nil, or_false] at this
  omega
theorem DomC.w {w m : Nat} {c : List Nat} (h : DomC w m c) : w ∈ [1, 2] := by
  rcases h.wm.1 with e | e <;> subst e <;> decide
theorem DomC.c {w m : Nat} {c : List Nat} (h : DomC w m c) : c.length ≤ 20 ∧ sm (valM c) ∧ ∀ x ∈ c, x = 48 ∨ x = 49 := next_small (w, m) h.1 c h.2
theorem mul_small {a b : Int} (ha : 0 ≤ a ∧ a < 1000000) (hb : 0 ≤ b ∧ b ≤ 10) : 0 ≤ a * b ∧ a * b ≤ 10000000 := by
  refine ⟨Int.mul_nonneg ha.1 hb.1, ?_⟩
  have := Int.mul_le_mul (show a ≤ 1000000 by omega) hb.2 hb.1 (by omega)
  omega
theorem next_case (w m : Nat) (c b : List Nat) : nextM w m c b = [48] ∨ nextM w m c b = [49] ∨ nextM w m c b = [63] ∨ nextM w m c b = [] := by
  unfold nextM
  simp only
  repeat' split
  all_goals simp
theorem domB_ext {w : Nat} {b : List Nat} {s : Nat} {n x : Nat} (h : DomB w b) (hs : s = 48 ∨ s = 49) (hx : x = 48 ∨ x = 49) (hn : b.length + 1 + n ≤ 4) : DomB w (b ++ [s] ++ List.replicate n x) := by
  refine ⟨h.1, mem_allB ?_ fun y hy => ?_⟩
  · simp only [List.length_append, List.length_cons, List.length_nil, List.length_replicate]
    omega
  · rcases List.mem_append.mp hy with hy | hy
    · rcases List.mem_append.mp hy with hy | hy
      · exact allB_sig b h.2 y hy
      · rw [List.mem_singleton.mp hy]
        exact hs
    · rw [(List.mem_replicate.mp hy).2]
      exact hx
theorem domB_one {w : Nat} {b : List Nat} {s : Nat} (h : DomB w b) (hs : s = 48 ∨ s = 49) (hn : b.length + 1 ≤ 4) : DomB w (b ++ [s]) := by
  have := domB_ext (n := 0) (x := 48) h hs (.inl rfl) (by omega)
  simpa using this
def sp_next_bit : Sp := fun vs H Q _ => ∃ (w m : Nat) (c b : List Nat), vs = [.int w, .int m, .str (tx c), .str (tx b)] ∧ DomC w m c ∧ DomB w b ∧ b.length < m ∧ ∀ H', Same H H' → Q (.str (tx (nextM w m c b))) H'
section
variable {P : Program} {wd : World} {K : PySem.W.Frag} {mg : Str → Option Value} {base : Heap} {CF CA CP : Addr}

theorem sc_next_bit : FnScope ["width", "count", "code", "bits", "low", "size", "whole", "zeros", "ones", "border", "number", "more", "low_is_possible", "high_is_possible"] ["width", "count", "code", "bits"] (defScope s_next_bit) := ⟨rfl, rfl, rfl, by decide +kernel, rfl, by decide +kernel, by decide +kernel⟩
theorem cal_next_bit (T : Tx K mg CF CA CP) : Cal P wd K mg base 5 "_next_bit" ["width", "count", "code", "bits"] sp_next_bit := by
  refine T.cal (d := d_next_bit) 25 rfl sc_next_bit (fun _ _ _ _ _ _ us hl => match us, hl with | [_, _, _, _], _ => rfl) (fun vs H Q E h => ?_) (fun f cdv A outer s H vs Q E hr h => ?_)
  · obtain ⟨w, m, c, b, rfl, _⟩ := h
    rfl
  · obtain ⟨w, m, c, b, rfl, hc, hd, hb, k⟩ := h
    refine ⟨_, (pss_cons (ps_asg (pe_cal (cal_interval T) hr (pa_cons (pv 0) (pa_cons (pv 3) pa_nil))) (pg_tupK (K := K) (n := 3) (by rfl) (pgs_cons (pg_name (i := 4) sc_next_bit.nd rfl (by first | exact Or.inl rfl | exact Or.inr rfl)) (pgs_cons (pg_name (i := 5) sc_next_bit.nd rfl (by first | exact Or.inl rfl | exact Or.inr rfl)) (pgs_cons (pg_name (i := 6) sc_next_bit.nd rfl (by first | exact Or.inl rfl | exact Or.inr rfl)) pgs_nil)))))
      (pss_cons (ps_asg (pe_cal (cal_shares T) hr (pa_cons (pv 0) (pa_cons (pv 3) (pa_cons (pe_callB call_len_str (by rfl) (T.nof _ (fre_len)) PySem.boot_len (pa_cons (pv 3) pa_nil)) pa_nil)))) (pg_tupK (K := K) (n := 2) (by rfl) (pgs_cons (pg_name (i := 7) sc_next_bit.nd rfl (by first | exact Or.inl rfl | exact Or.inr rfl)) (pgs_cons (pg_name (i := 8) sc_next_bit.nd rfl (by first | exact Or.inl rfl | exact Or.inr rfl)) pgs_nil))))
      (pss_cons (ps_set (i := 9) sc_next_bit.nd rfl (by first | exact Or.inl rfl | exact Or.inr rfl) (pe_op op_add (pe_op op_mul (pv 4) (pe_op op_add (pv 7) (pv 8))) (pe_op op_mul (pv 5) (pv 7))))
      (pss_cons (ps_set (i := 6) sc_next_bit.nd rfl (by first | exact Or.inl rfl | exact Or.inr rfl) (pe_op op_mul (pv 6) (pe_op op_add (pv 7) (pv 8))))
      (pss_cons (ps_set (i := 10) sc_next_bit.nd rfl (by first | exact Or.inl rfl | exact Or.inr rfl) (pe_cal (cal_digits_value T) hr (pa_cons (pv 2) pa_nil)))
      (pss_cons (ps_if (pt_cmpR op_le (pe_op op_mul (pe_op op_add (pv 10) pe_int) (pv 6)) (pe_op op_shl (pv 9) (pe_callB call_len_str (by rfl) (T.nof _ (fre_len)) PySem.boot_len (pa_cons (pv 2) pa_nil))) (nomark _))
      (pss_one (ps_ret (pe_tx tx0)))
      pss_nil)
      (pss_cons (ps_if (pt_cmpR op_le (pe_op op_shl (pv 9) (pe_callB call_len_str (by rfl) (T.nof _ (fre_len)) PySem.boot_len (pa_cons (pv 2) pa_nil))) (pe_op op_mul (pv 10) (pv 6)) (nomark _))
      (pss_one (ps_ret (pe_tx tx1)))
      pss_nil)
      (pss_cons (ps_set (i := 11) sc_next_bit.nd rfl (by first | exact Or.inl rfl | exact Or.inr rfl) (pe_op op_sub (pe_op op_sub (pv 1) (pe_callB call_len_str (by rfl) (T.nof _ (fre_len)) PySem.boot_len (pa_cons (pv 3) pa_nil))) pe_int))
      (pss_cons (ps_set (i := 12) sc_next_bit.nd rfl (by first | exact Or.inl rfl | exact Or.inr rfl) (pe_cal (cal_opens T) hr (pa_cons (pv 0) (pa_cons (pv 2) (pa_cons (pe_cal (cal_last_with_zero T) hr (pa_cons (pv 3) (pa_cons (pv 11) pa_nil))) pa_nil)))))
      (pss_cons (ps_set (i := 13) sc_next_bit.nd rfl (by first | exact Or.inl rfl | exact Or.inr rfl) (pe_cal (cal_opens T) hr (pa_cons (pv 0) (pa_cons (pv 2) (pa_cons (pe_cal (cal_first_with_one T) hr (pa_cons (pv 3) (pa_cons (pv 11) pa_nil))) pa_nil)))))
      (pss_cons (ps_if (PW.pt (pw_and (pt_val (pv 12)) (pw_and1 (pt_val (pv 13)))))
      (pss_one (ps_ret (pe_tx txq)))
      pss_nil)
      (pss_cons (ps_if (pt_val (pv 12))
      (pss_one (ps_ret (pe_tx tx0)))
      pss_nil)
      (pss_one (ps_ret (pe_ifExp (pt_val (pv 13)) (pe_tx tx1) (pe_tx txe)))))))))))))))), ?_⟩
    walk_at "start"
    obtain ⟨a1, a2, a3⟩ := hc.c
    obtain ⟨q1, q2, q3⟩ := hc.wm
    obtain ⟨b1, b2, b3, b4, b5, b6⟩ := hd.iv (Nat.le_refl _)
    obtain ⟨d1, d2⟩ := hd.sh (Nat.le_refl _)
    have hw := hd.w1
    have hl := hd.len
    walk_at "go"
    refine ⟨w, b, rfl, hd, fun T H1 S1 hT => ?_⟩
    refine g_gtup (SqT.of hT) rfl ?_
    walk_at "go"
    refine ⟨w, b.length, b, rfl, by omega, by omega, by omega, fun T2 h2 => ?_⟩
    have S2 : Same H (upd H1 T2 (.tup [.int (shM w b b.length b.length).1, .int (shM w b b.length b.length).2])) := S1.new h2
    refine g_gtup (SqT.of upd_same) rfl ?_
    have p1 := mul_small b1 (show 0 ≤ (shM w b b.length b.length).1 + (shM w b b.length b.length).2 ∧ (shM w b b.length b.length).1 + (shM w b b.length b.length).2 ≤ 10 by omega)
    have p2 := mul_small (show 0 ≤ (ivM w b b.length).size ∧ (ivM w b b.length).size < 1000000 by omega) (show 0 ≤ (shM w b b.length b.length).1 ∧ (shM w b b.length b.length).1 ≤ 10 by omega)
    have p3 := mul_small (show 0 ≤ (ivM w b b.length).whole ∧ (ivM w b b.length).whole < 1000000 by omega) (show 0 ≤ (shM w b b.length b.length).1 + (shM w b b.length b.length).2 ∧ (shM w b b.length b.length).1 + (shM w b b.length b.length).2 ≤ 10 by omega)
    walk_at "go"
    refine ⟨c, rfl, by omega, ?_⟩
    walk_at "go"
    refine g_ite (fun e1 => ?_) (fun e1 => ?_)
    · walk_at "go"
      have h := k _ S2
      have en : nextM w m c b = [48] := if_pos (of_decide_eq_true e1)
      rw [en] at h
      exact h
    walk_at "go"
    refine g_ite (fun e2 => ?_) (fun e2 => ?_)
    · walk_at "go"
      have h := k _ S2
      have en : nextM w m c b = [49] := (if_neg (of_decide_eq_false e1)).trans (if_pos (of_decide_eq_true e2))
      rw [en] at h
      exact h
    walk_at "go"
    have em : (m : Int) - (b.length : Int) - 1 = ((m - b.length - 1 : Nat) : Int) := by omega
    rw [em]
    refine ⟨b, m - b.length - 1, rfl, by omega, by omega, ?_⟩
    walk_at "go"
    refine ⟨w, c, _, rfl, domB_ext hd (.inl rfl) (.inr rfl) (by omega), by omega, fun H3 S3 => ?_⟩
    walk_at "go"
    refine ⟨b, m - b.length - 1, rfl, by omega, by omega, ?_⟩
    walk_at "go"
    refine ⟨w, c, _, rfl, domB_ext hd (.inr rfl) (.inl rfl) (by omega), by omega, fun H4 S4 => ?_⟩
    have h := k _ ((S2.trans S3).trans S4)
    have e1 := of_decide_eq_false e1
    have e2 := of_decide_eq_false e2
    have en : nextM w m c b = (let lo := opensM w c (b ++ [48] ++ List.replicate (m - b.length - 1) 49); let hi := opensM w c (b ++ [49] ++ List.replicate (m - b.length - 1) 48); if lo && hi then [63] else if lo then [48] else if hi then [49] else []) := (if_neg e1).trans (if_neg e2)
    rw [en] at h
    generalize opensM w c (b ++ [48] ++ List.replicate (m - b.length - 1) 49) = lo at h ⊢
    generalize opensM w c (b ++ [49] ++ List.replicate (m - b.length - 1) 48) = hi at h ⊢
    walk_at "go"
    cases lo <;> cases hi <;> (walk_at "go"; exact h)
end

end PP
namespace PP
open PySem PySem.Spec PyProof.Rows L2
/-- a name's new value, in a state that is written out -/
local macro_rules | `(tactic| walk_at "set") => `(tactic| (simp only [List.set_cons_succ, List.set_cons_zero]; exact rfl))
local macro_rules | `(tactic| walk_at "start") => `(tactic| (refine g_start (σ' := ?sgm) ?hstart ?_; (case hstart => (simp only [start_eS, start_eN, start_e0]; exact rfl))))
/-- one step of a reading -/
local macro_rules | `(tactic| walk_at "g1") => `(tactic| first
  | ((with_reducible refine g_var (v := ?vv) ?hvv ?_); (case hvv => exact rfl))
  | ((with_reducible refine g_nxS (σ' := ?sgm) ?hset ?_); (case hset => walk_at "set"))
  | ((with_reducible refine g_gnameS (σ' := ?sgm) ?hset ?_); (case hset => walk_at "set"))
  | with_reducible first
    | refine g_c ?_
    | refine g_op ?_
    | refine g_I0 ?_
    | refine g_tst ?_
    | refine g_blc ?_
    | refine g_seq ?_
    | refine g_set ?_
    | refine g_ret ?_
    | refine g_if ?_
    | refine g_eqS ?_
    | refine g_eqT ?_
    | refine g_B ?_
    | refine g_cons ?_
    | refine g_nil ?_
    | refine g_call ?_
    | refine g_cb ?_
    | refine g_ifE ?_
    | refine g_drop ?_
    | refine g_rt ?_
    | refine g_nxt ?_
    | refine g_for ?_
    | refine g_rng1 ?_
    | refine g_rngN (by omega) ?_
    | refine g_true ?_
    | refine g_false ?_
    | refine g_dT (by omega) ?_
    | refine g_dF (by omega) ?_
  | ((with_reducible refine g_dT ?hcc ?_); (case hcc => decide))
  | ((with_reducible refine g_dF ?hcc ?_); (case hcc => decide))
  | ((with_reducible refine ⟨tx _, rfl, sz_tx ?hzt, ?_⟩); (case hzt => first | omega | (simp only [List.length_nil, List.length_cons, List.length_append]; omega)); rw [tx_len])
  | (with_reducible refine ⟨tx _, tx _, rfl, rfl, sz_cat ?hzc, ?_⟩; (case hzc => first | omega | (simp only [List.length_append, List.length_cons, List.length_nil, List.length_replicate]; omega)); rw [tx_app])
  | ((with_reducible refine g_I ?hcc ?_); (case hcc => first | (intro hz; omega) | omega | exact Or.inl (by omega) | exact Or.inr (by omega) | exact ⟨by omega, by omega, by omega⟩ | exact ⟨by omega, by omega⟩)))
local macro_rules | `(tactic| walk_at "go") => `(tactic| repeat (walk_at "g1"))
/-- if c: x = an int, joined -/
local macro_rules | `(tactic| walk_at "when") => `(tactic| (refine g_whenI (i0 := ?wj) (i1 := ?wi) ?wo ?wh ?_; (case wo => exact rfl); (case wh => (intro hw Q' hq; walk_at "go"; exact hq))))
/-- a heap that has only grown -/
local macro_rules | `(tactic| walk_at "same") => `(tactic| repeat (first | exact Same.refl _ | assumption | refine L2.Same.new ?_ (by assumption)))
/-- what stands at a place of a heap that has only grown -/
local macro_rules | `(tactic| walk_at "get") => `(tactic| repeat (first | exact upd_same | assumption | refine upd_get (by assumption) ?_))
/-- what find_prefix gives -/
def optV : Option (List Nat) → V
  | some p => .str (tx p)
  | none => .non
def sp_find_prefix : Sp := fun vs H Q _ => ∃ (w m : Nat) (c : List Nat), vs = [.int w, .int m, .str (tx c)] ∧ DomC w m c ∧ ∀ H', Same H H' → Q (optV (findM w m c)) H'
theorem findL_zero (w m : Nat) (c b : List Nat) : findL w m c 0 b = if opensM w c b then some b else none := rfl
theorem findL_succ (w m : Nat) (c b : List Nat) (k : Nat) : findL w m c (k + 1) b = if nextM w m c b = [63] then some b else if nextM w m c b = [] then none else findL w m c k (b ++ nextM w m c b) := rfl
section
variable {P : Program} {wd : World} {K : PySem.W.Frag} {mg : Str → Option Value} {base : Heap} {CF CA CP : Addr}

theorem sc_find_prefix : FnScope ["width", "count", "code", "bits", "_", "bit"] ["width", "count", "code"] (defScope s_find_prefix) := ⟨rfl, rfl, rfl, by decide +kernel, rfl, by decide +kernel, by decide +kernel⟩
theorem cal_find_prefix (T : Tx K mg CF CA CP) : Cal P wd K mg base 6 "find_prefix" ["width", "count", "code"] sp_find_prefix := by
  refine T.cal (d := d_find_prefix) 26 rfl sc_find_prefix (fun _ _ _ _ _ _ us hl => match us, hl with | [_, _, _], _ => rfl) (fun vs H Q E h => ?_) (fun f cdv A outer s H vs Q E hr h => ?_)
  · obtain ⟨w, m, c, rfl, _⟩ := h
    rfl
  · obtain ⟨w, m, c, rfl, hc, k⟩ := h
    refine ⟨_, (pss_cons (ps_if (pt_cmpR op_ge (pe_op op_mul pe_int (pe_callB call_len_str (by rfl) (T.nof _ (fre_len)) PySem.boot_len (pa_cons (pv 2) pa_nil))) (pe_op op_add (pe_op op_mul pe_int (pv 1)) pe_int) (nomark _))
      (pss_one (ps_ret pe_non))
      pss_nil)
      (pss_cons (ps_set (i := 3) sc_find_prefix.nd rfl (by first | exact Or.inl rfl | exact Or.inr rfl) (pe_tx txe))
      (pss_cons (ps_for PassesOwn.never rfl (pi_range1 (by rfl) (T.nof _ (fre_range)) (pa_cons (pv 1) pa_nil)) (pg_name (i := 4) sc_find_prefix.nd rfl (by first | exact Or.inl rfl | exact Or.inr rfl))
      (pss_cons (ps_set (i := 5) sc_find_prefix.nd rfl (by first | exact Or.inl rfl | exact Or.inr rfl) (pe_cal (cal_next_bit T) hr (pa_cons (pv 0) (pa_cons (pv 1) (pa_cons (pv 2) (pa_cons (pv 3) pa_nil))))))
      (pss_cons (ps_if (pt_cmpR op_eq (pv 5) (pe_tx txq) (nomark _))
      (pss_one (ps_ret (pv 3)))
      pss_nil)
      (pss_cons (ps_if (pt_cmpR op_eq (pv 5) (pe_tx txe) (nomark _))
      (pss_one (ps_ret pe_non))
      pss_nil)
      (pss_one (ps_set (i := 3) sc_find_prefix.nd rfl (by first | exact Or.inl rfl | exact Or.inr rfl) (pe_op op_add_str (pv 3) (pv 5))))))))
      (pss_one (ps_ret (pe_ifExp (pt_val (pe_cal (cal_opens T) hr (pa_cons (pv 0) (pa_cons (pv 2) (pa_cons (pv 3) pa_nil))))) (pv 3) pe_non)))))), ?_⟩
    walk_at "start"
    obtain ⟨a1, a2, a3⟩ := hc.c
    obtain ⟨q1, q2, q3⟩ := hc.wm
    walk_at "go"
    refine g_forV (fun i σ H' => Same H H' ∧ ∃ b e4 e5, DomB w b ∧ b.length = i ∧ findL w m c m [] = findL w m c (m - i) b ∧ σ = [some (.int w), some (.int m), some (.str (tx c)), some (.str (tx b)), e4, e5]) (itv_r0 m) (fun _ _ _ _ => trivial) ⟨Same.refl _, [], none, none, ⟨hc.w, by decide +kernel⟩, rfl, rfl, rfl⟩ (fun i σ H' hi h => ?_) (fun σ H' h => ?_)
    · obtain ⟨S, b, e4, e5, hd, hb, hf, e⟩ := h
      subst e
      have ef : findM w m c = findL w m c (m - i) b := by
        rw [← hf]
        exact if_neg (by omega)
      have ei : m - i = (m - i - 1) + 1 := by omega
      rw [ei, findL_succ] at ef hf
      walk_at "go"
      refine ⟨w, m, c, b, rfl, hc, hd, by omega, fun H2 S2 => ?_⟩
      rcases next_case w m c b with en | en | en | en
      · rw [en] at ef hf ⊢
        walk_at "go"
        refine ⟨S.trans S2, b ++ [48], _, _, domB_one hd (.inl rfl) (by omega), by simp only [List.length_append, List.length_cons, List.length_nil]; omega, ?_, rfl⟩
        rw [hf, if_neg (by decide), if_neg (by decide)]
        congr 1
      · rw [en] at ef hf ⊢
        walk_at "go"
        refine ⟨S.trans S2, b ++ [49], _, _, domB_one hd (.inr rfl) (by omega), by simp only [List.length_append, List.length_cons, List.length_nil]; omega, ?_, rfl⟩
        rw [hf, if_neg (by decide), if_neg (by decide)]
        congr 1
      · rw [en] at ef ⊢
        walk_at "go"
        rw [if_pos rfl] at ef
        have h := k _ (S.trans S2)
        rw [ef] at h
        exact h
      · rw [en] at ef ⊢
        walk_at "go"
        rw [if_neg (by decide), if_pos rfl] at ef
        have h := k _ (S.trans S2)
        rw [ef] at h
        exact h
    · obtain ⟨S, b, e4, e5, hd, hb, hf, e⟩ := h
      subst e
      rw [Nat.sub_self, findL_zero] at hf
      have ef : findM w m c = if opensM w c b then some b else none := by
        rw [← hf]
        exact if_neg (by omega)
      walk_at "go"
      refine ⟨w, c, b, rfl, hd, by omega, fun H2 S2 => ?_⟩
      have h := k _ (S.trans S2)
      rw [ef] at h
      generalize opensM w c b = o at h ⊢
      walk_at "go"
      cases o <;> (walk_at "go"; exact h)
def sp_known_prefix : Sp := fun vs H Q _ => ∃ (w m : Nat) (c : List Nat), vs = [.int w, .int m, .str (tx c)] ∧ DomC w m c ∧ ∀ H', Same H H' → Q (optV (findM w m c)) H'
theorem sc_known_prefix : FnScope ["width", "count", "code"] ["width", "count", "code"] (defScope s_known_prefix) := ⟨rfl, rfl, rfl, by decide +kernel, rfl, by decide +kernel, by decide +kernel⟩
theorem cal_known_prefix (T : Tx K mg CF CA CP) : Cal P wd K mg base 7 "known_prefix" ["width", "count", "code"] sp_known_prefix := by
  refine T.cal (d := d_known_prefix) 27 rfl sc_known_prefix (fun _ _ _ _ _ _ us hl => match us, hl with | [_, _, _], _ => rfl) (fun vs H Q E h => ?_) (fun f cdv A outer s H vs Q E hr h => ?_)
  · obtain ⟨w, m, c, rfl, _⟩ := h
    rfl
  · obtain ⟨w, m, c, rfl, hc, k⟩ := h
    refine ⟨_, (pss_cons (ps_expr (pe_cal (cal_check_width T) hr (pa_cons (pv 0) pa_nil)))
      (pss_cons (ps_expr (pe_cal (cal_check_count T) hr (pa_cons (pv 1) pa_nil)))
      (pss_cons (ps_expr (pe_cal (cal_check_code T) hr (pa_cons (pv 2) pa_nil)))
      (pss_one (ps_ret (pe_cal (cal_find_prefix T) hr (pa_cons (pv 0) (pa_cons (pv 1) (pa_cons (pv 2) pa_nil))))))))), ?_⟩
    walk_at "start"
    obtain ⟨a1, a2, a3⟩ := hc.c
    obtain ⟨q1, q2, q3⟩ := hc.wm
    walk_at "go"
    refine ⟨w, rfl, by omega, ?_⟩
    walk_at "go"
    refine ⟨m, rfl, by omega, ?_⟩
    walk_at "go"
    refine ⟨c, rfl, by omega, ?_⟩
    walk_at "go"
    exact ⟨w, m, c, rfl, hc, k⟩
def sp_known : Sp := fun vs H Q _ => ∃ (w m : Nat) (c p : List Nat), vs = [.int w, .int m, .str (tx c)] ∧ DomC w m c ∧ findM w m c = some p ∧ p.length ≤ m ∧ ∀ H', Same H H' → Q (.str (tx (p ++ List.replicate (m - p.length) 63))) H'
theorem sc_known : FnScope ["width", "count", "code", "bits"] ["width", "count", "code"] (defScope s_known) := ⟨rfl, rfl, rfl, by decide +kernel, rfl, by decide +kernel, by decide +kernel⟩
theorem cal_known (T : Tx K mg CF CA CP) : Cal P wd K mg base 8 "known" ["width", "count", "code"] sp_known := by
  refine T.cal (d := d_known) 28 rfl sc_known (fun _ _ _ _ _ _ us hl => match us, hl with | [_, _, _], _ => rfl) (fun vs H Q E h => ?_) (fun f cdv A outer s H vs Q E hr h => ?_)
  · obtain ⟨w, m, c, p, rfl, _⟩ := h
    rfl
  · obtain ⟨w, m, c, p, rfl, hc, hp, hl, k⟩ := h
    refine ⟨_, (pss_cons (ps_set (i := 3) sc_known.nd rfl (by first | exact Or.inl rfl | exact Or.inr rfl) (pe_cal (cal_known_prefix T) hr (pa_cons (pv 0) (pa_cons (pv 1) (pa_cons (pv 2) pa_nil)))))
      (pss_cons (ps_if (pt_cmpR op_isN (pv 3) pe_non (nomark _))
      (pss_one (ps_ret pe_non))
      pss_nil)
      (pss_one (ps_ret (pe_op op_add_str (pv 3) (pe_op op_mulS (pe_tx txq) (pe_op op_sub (pv 1) (pe_callB call_len_str (by rfl) (T.nof _ (fre_len)) PySem.boot_len (pa_cons (pv 3) pa_nil))))))))), ?_⟩
    walk_at "start"
    obtain ⟨q1, q2, q3⟩ := hc.wm
    walk_at "go"
    refine ⟨w, m, c, rfl, hc, fun H1 S1 => ?_⟩
    rw [hp]
    walk_at "go"
    refine ⟨rfl, ?_⟩
    have e : decide (optV (some p) = V.non) = false := decide_eq_false (fun h => by cases h)
    rw [e]
    walk_at "go"
    have em : (m : Int) - (p.length : Int) = ((m - p.length : Nat) : Int) := by omega
    rw [em]
    refine g_mulS (by omega) ?_
    refine ⟨tx p, tx _, rfl, rfl, sz_cat (by rw [List.length_replicate]; omega), ?_⟩
    rw [tx_app]
    exact k H1 S1
end

end PP
namespace PP
open PySem PySem.Spec PyProof.Rows L2
/-- a name's new value, in a state that is written out -/
local macro_rules | `(tactic| walk_at "set") => `(tactic| (simp only [List.set_cons_succ, List.set_cons_zero]; exact rfl))
local macro_rules | `(tactic| walk_at "start") => `(tactic| (refine g_start (σ' := ?sgm) ?hstart ?_; (case hstart => (simp only [start_eS, start_eN, start_e0]; exact rfl))))
/-- one step of a reading -/
local macro_rules | `(tactic| walk_at "g1") => `(tactic| first
  | fail)
local macro_rules | `(tactic| walk_at "go") => `(tactic| repeat (walk_at "g1"))
/-- if c: x = an int, joined -/
local macro_rules | `(tactic| walk_at "when") => `(tactic| (refine g_whenI (i0 := ?wj) (i1 := ?wi) ?wo ?wh ?_; (case wo => exact rfl); (case wh => (intro hw Q' hq; walk_at "go"; exact hq))))
/-- a heap that has only grown -/
local macro_rules | `(tactic| walk_at "same") => `(tactic| repeat (first | exact Same.refl _ | assumption | refine L2.Same.new ?_ (by assumption)))
/-- what stands at a place of a heap that has only grown -/
local macro_rules | `(tactic| walk_at "get") => `(tactic| repeat (first | exact upd_same | assumption | refine upd_get (by assumption) ?_))
/-! ### comprehensions of two and three clauses -/
section
variable {wi wi1 wi2 : TI} {g g1 g2 : TG} {tt tt1 : TT} {te : TE} {σ σ2 σ3 : L2.St} {H H1 : Hp} {Q : VK} {n : Nat} {va vb : Nat → V} {G : Hp → Prop} {vs vs1 vs2 : List Nat} {D : Addr} {Nx Nx1 : Hp → Prop}
def Inn2 (g1 : TG) (tt1 : TT) (te : TE) (vs1 : List Nat) (D : Addr) (σ2 : L2.St) (Nx : Hp → Prop) (J1 : It) (H4 : Hp) : Prop := ∃ W1 : Nat → Nat → Hp → Prop, (∃ m, W1 0 m H4) ∧ ∀ j k H, W1 j k H →
      (J1.stop j H ∧ Nx H) ∨ (J1.go j H ∧ ∃ Nx1 : Hp → Prop, (∀ H', Nx1 H' → ∃ k', k' < k ∧ W1 (j + 1) k' H') ∧ ∀ x H', J1.yld j H x H' → g1 x (wipe σ2 vs1) H' fun σ3 H5 => wipe σ3 vs1 = wipe σ2 vs1 ∧ tt1 σ3 H5 fun b H6 =>
        if b = true then te σ3 H6 fun y H7 => ∃ acc, H7 D = some (.lst acc) ∧ acc.length < sizeLine ∧ Nx1 (upd H7 D (.lst (acc ++ [y]))) else Nx1 H6)
def Out2 (wi1 : TI) (g g1 : TG) (tt tt1 : TT) (te : TE) (vs vs1 : List Nat) (σ : L2.St) (Q : VK) (J : It) (H1 : Hp) : Prop := ∀ D, H1 D = none → ∃ W : Nat → Nat → Hp → Prop, (∃ m, W 0 m (upd H1 D (.lst []))) ∧ ∀ i m H, W i m H →
  (J.stop i H ∧ Q (.ref D) H) ∨ (J.go i H ∧ ∃ Nx : Hp → Prop, (∀ H', Nx H' → ∃ m', m' < m ∧ W (i + 1) m' H') ∧ ∀ x H', J.yld i H x H' → g x (wipe σ vs) H' fun σ2 H2 => wipe σ2 vs = wipe σ vs ∧ tt σ2 H2 fun b H3 =>
    if b = true then wi1 σ2 H3 (Inn2 g1 tt1 te vs1 D σ2 Nx) else Nx H3)
theorem g_lc2 (q : wi σ H (Out2 wi1 g g1 tt tt1 te vs vs1 σ Q)) : tLc2 wi g tt wi1 g1 tt1 te vs vs1 σ H Q := q
theorem g_lc3 (q : wi σ H (Out3 wi1 wi2 g g1 g2 te vs vs1 vs2 σ Q)) : tLc3 wi g wi1 g1 wi2 g2 te vs vs1 vs2 σ H Q := q
/-- a loop of a comprehension that is not the last: B the body -/
theorem outer_any {J : It} (B : Addr → L2.St → (Hp → Prop) → Hp → Prop) (Iv : Nat → List V → Hp → Prop) (jv : ItV J n va G) (hG : ∀ H2, Same H1 H2 → G H2) (i0 : Iv 0 [] H1)
    (step : ∀ D i acc H2 (Nx : Hp → Prop), i < n → H1 D = none → H2 D = some (.lst acc) → Same H1 H2 → Iv i acc (hide D H2) → (∀ acc' H4, H4 D = some (.lst acc') → Same H1 H4 → Iv (i + 1) acc' (hide D H4) → Nx H4) →
      ∀ R : L2.St → Hp → Prop, (∀ σ2 H3, (wipe σ2 vs = wipe σ vs ∧ B D σ2 Nx H3) → R σ2 H3) → g (va i) (wipe σ vs) H2 R)
    (done : ∀ D acc H2, H1 D = none → H2 D = some (.lst acc) → Same H1 H2 → Iv n acc (hide D H2) → Q (.ref D) H2) : ∀ D, H1 D = none → ∃ W : Nat → Nat → Hp → Prop, (∃ m, W 0 m (upd H1 D (.lst []))) ∧ ∀ i m H, W i m H →
  (J.stop i H ∧ Q (.ref D) H) ∨ (J.go i H ∧ ∃ Nx : Hp → Prop, (∀ H', Nx H' → ∃ m', m' < m ∧ W (i + 1) m' H') ∧ ∀ x H', J.yld i H x H' → g x (wipe σ vs) H' fun σ2 H2 => wipe σ2 vs = wipe σ vs ∧ B D σ2 Nx H2) := by
  intro D hD
  refine ⟨fun i m H2 => i + m = n ∧ ∃ acc, H2 D = some (.lst acc) ∧ Same H1 H2 ∧ Iv i acc (hide D H2), ⟨n, Nat.zero_add n, [], upd_same, same_new hD, by
    rw [hide_upd, hide_none hD]
    exact i0⟩, fun i m H2 hw => ?_⟩
  obtain ⟨e, acc, h1, h2, h4⟩ := hw
  cases m with
  | zero =>
    have e : i = n := e
    subst e
    exact .inl ⟨jv.stop H2 (hG H2 h2), done D acc H2 hD h1 h2 h4⟩
  | succ m =>
    have hlt : i < n := by omega
    refine .inr ⟨jv.go i H2 hlt (hG H2 h2), fun H3 => ∃ acc, H3 D = some (.lst acc) ∧ Same H1 H3 ∧ Iv (i + 1) acc (hide D H3), fun H3 h' => ⟨m, Nat.lt_succ_self m, by omega, h'⟩, fun x H' hy => ?_⟩
    obtain ⟨e1, e2⟩ := jv.yld i H2 x H' hlt (hG H2 h2) hy
    subst e1 e2
    exact step D i acc _ _ hlt hD h1 h2 h4 (fun acc' H4 q1 q2 q3 => ⟨acc', q1, q2, q3⟩) _ (fun σ2 H3 q => q)
/-- a loop inside: D the list, H1 the heap before it; B the body -/
theorem inner_any {J : It} {H4 : Hp} {acc0 : List V} (B : L2.St → (Hp → Prop) → Hp → Prop) (Iv : Nat → List V → Hp → Prop) (jv : ItV J n va G) (hD : H1 D = none) (h0 : H4 D = some (.lst acc0)) (S0 : Same H1 H4) (hG : ∀ H2, Same H1 H2 → G H2) (i0 : Iv 0 acc0 (hide D H4))
    (step : ∀ i acc H2 (Nx1 : Hp → Prop), i < n → H2 D = some (.lst acc) → Same H1 H2 → Iv i acc (hide D H2) → (∀ acc' H4, H4 D = some (.lst acc') → Same H1 H4 → Iv (i + 1) acc' (hide D H4) → Nx1 H4) →
      ∀ R : L2.St → Hp → Prop, (∀ σ3 H3, (wipe σ3 vs1 = wipe σ2 vs1 ∧ B σ3 Nx1 H3) → R σ3 H3) → g1 (va i) (wipe σ2 vs1) H2 R)
    (done : ∀ acc H2, H2 D = some (.lst acc) → Same H1 H2 → Iv n acc (hide D H2) → Nx H2) : ∃ W1 : Nat → Nat → Hp → Prop, (∃ m, W1 0 m H4) ∧ ∀ j k H, W1 j k H →
      (J.stop j H ∧ Nx H) ∨ (J.go j H ∧ ∃ Nx1 : Hp → Prop, (∀ H', Nx1 H' → ∃ k', k' < k ∧ W1 (j + 1) k' H') ∧ ∀ x H', J.yld j H x H' → g1 x (wipe σ2 vs1) H' fun σ3 H5 => wipe σ3 vs1 = wipe σ2 vs1 ∧ B σ3 Nx1 H5) := by
  refine ⟨fun i m H2 => i + m = n ∧ ∃ acc, H2 D = some (.lst acc) ∧ Same H1 H2 ∧ Iv i acc (hide D H2), ⟨n, Nat.zero_add n, acc0, h0, S0, i0⟩, fun i m H2 hw => ?_⟩
  obtain ⟨e, acc, h1, h2, h4⟩ := hw
  cases m with
  | zero =>
    have e : i = n := e
    subst e
    exact .inl ⟨jv.stop H2 (hG H2 h2), done acc H2 h1 h2 h4⟩
  | succ m =>
    have hlt : i < n := by omega
    refine .inr ⟨jv.go i H2 hlt (hG H2 h2), fun H3 => ∃ acc, H3 D = some (.lst acc) ∧ Same H1 H3 ∧ Iv (i + 1) acc (hide D H3), fun H3 h' => ⟨m, Nat.lt_succ_self m, by omega, h'⟩, fun x H' hy => ?_⟩
    obtain ⟨e1, e2⟩ := jv.yld i H2 x H' hlt (hG H2 h2) hy
    subst e1 e2
    exact step i acc _ _ hlt h1 h2 h4 (fun acc' H4 q1 q2 q3 => ⟨acc', q1, q2, q3⟩) _ (fun σ2 H3 q => q)
/-- the append at the end of a turn -/
theorem app_end {acc : List V} {H7 : Hp} {y : V} (hl : acc.length ≤ 100000) (h : H7 D = some (.lst acc)) (q : Nx1 (upd H7 D (.lst (acc ++ [y])))) : ∃ acc, H7 D = some (.lst acc) ∧ acc.length < sizeLine ∧ Nx1 (upd H7 D (.lst (acc ++ [y]))) := ⟨acc, h, lt_sz hl, q⟩
theorem g_out2 {J : It} (Iv : Nat → List V → Hp → Prop) (jv : ItV J n va G) (hG : ∀ H2, Same H1 H2 → G H2) (i0 : Iv 0 [] H1)
    (step : ∀ D i acc H2 (Nx : Hp → Prop), i < n → H1 D = none → H2 D = some (.lst acc) → Same H1 H2 → Iv i acc (hide D H2) → (∀ acc' H4, H4 D = some (.lst acc') → Same H1 H4 → Iv (i + 1) acc' (hide D H4) → Nx H4) →
      ∀ R : L2.St → Hp → Prop, (∀ σ2 H3, wipe σ2 vs = wipe σ vs → wi1 σ2 H3 (Inn2 g1 tYes te vs1 D σ2 Nx) → R σ2 H3) → g (va i) (wipe σ vs) H2 R)
    (done : ∀ D acc H2, H1 D = none → H2 D = some (.lst acc) → Same H1 H2 → Iv n acc (hide D H2) → Q (.ref D) H2) : Out2 wi1 g g1 tYes tYes te vs vs1 σ Q J H1 :=
  outer_any (fun D σ2 Nx H3 => tYes σ2 H3 fun b H4 => if b = true then wi1 σ2 H4 (Inn2 g1 tYes te vs1 D σ2 Nx) else Nx H4) Iv jv hG i0 (fun D i acc H2 Nx h1 h2 h3 h4 h5 h6 R hR => step D i acc H2 Nx h1 h2 h3 h4 h5 h6 R fun σ2 H3 e q => hR σ2 H3 ⟨e, by refine g_yes ?_; exact iteT q⟩) done
theorem g_out3 {J : It} (Iv : Nat → List V → Hp → Prop) (jv : ItV J n va G) (hG : ∀ H2, Same H1 H2 → G H2) (i0 : Iv 0 [] H1)
    (step : ∀ D i acc H2 (Nx : Hp → Prop), i < n → H1 D = none → H2 D = some (.lst acc) → Same H1 H2 → Iv i acc (hide D H2) → (∀ acc' H4, H4 D = some (.lst acc') → Same H1 H4 → Iv (i + 1) acc' (hide D H4) → Nx H4) →
      ∀ R : L2.St → Hp → Prop, (∀ σ2 H3, wipe σ2 vs = wipe σ vs → wi1 σ2 H3 (Mid3 wi2 g1 g2 te vs1 vs2 D σ2 Nx) → R σ2 H3) → g (va i) (wipe σ vs) H2 R)
    (done : ∀ D acc H2, H1 D = none → H2 D = some (.lst acc) → Same H1 H2 → Iv n acc (hide D H2) → Q (.ref D) H2) : Out3 wi1 wi2 g g1 g2 te vs vs1 vs2 σ Q J H1 :=
  outer_any (fun D σ2 Nx H3 => wi1 σ2 H3 (Mid3 wi2 g1 g2 te vs1 vs2 D σ2 Nx)) Iv jv hG i0 (fun D i acc H2 Nx h1 h2 h3 h4 h5 h6 R hR => step D i acc H2 Nx h1 h2 h3 h4 h5 h6 R fun σ2 H3 e q => hR σ2 H3 ⟨e, q⟩) done
theorem g_mid3 {J : It} {H4 : Hp} {acc0 : List V} (Iv : Nat → List V → Hp → Prop) (jv : ItV J n va G) (hD : H1 D = none) (h0 : H4 D = some (.lst acc0)) (S0 : Same H1 H4) (hG : ∀ H2, Same H1 H2 → G H2) (i0 : Iv 0 acc0 (hide D H4))
    (step : ∀ i acc H2 (Nx1 : Hp → Prop), i < n → H2 D = some (.lst acc) → Same H1 H2 → Iv i acc (hide D H2) → (∀ acc' H4, H4 D = some (.lst acc') → Same H1 H4 → Iv (i + 1) acc' (hide D H4) → Nx1 H4) →
      ∀ R : L2.St → Hp → Prop, (∀ σ3 H3, wipe σ3 vs1 = wipe σ2 vs1 → wi2 σ3 H3 (In3 g2 te vs2 D σ3 Nx1) → R σ3 H3) → g1 (va i) (wipe σ2 vs1) H2 R)
    (done : ∀ acc H2, H2 D = some (.lst acc) → Same H1 H2 → Iv n acc (hide D H2) → Nx H2) : Mid3 wi2 g1 g2 te vs1 vs2 D σ2 Nx J H4 :=
  inner_any (fun σ3 Nx1 H3 => wi2 σ3 H3 (In3 g2 te vs2 D σ3 Nx1)) Iv jv hD h0 S0 hG i0 (fun i acc H2 Nx1 h1 h2 h3 h4 h5 R hR => step i acc H2 Nx1 h1 h2 h3 h4 h5 R fun σ3 H3 e q => hR σ3 H3 ⟨e, q⟩) done
theorem g_inn2 {J : It} {H4 : Hp} {acc0 : List V} (Iv : Nat → List V → Hp → Prop) (hl : ∀ i acc H, Iv i acc H → acc.length ≤ 100000) (jv : ItV J n va G) (hD : H1 D = none) (h0 : H4 D = some (.lst acc0)) (S0 : Same H1 H4) (hG : ∀ H2, Same H1 H2 → G H2) (i0 : Iv 0 acc0 (hide D H4))
    (step : ∀ i acc H2, i < n → H2 D = some (.lst acc) → Same H1 H2 → Iv i acc (hide D H2) → ∀ KK : VK, (∀ y H5, H5 D = some (.lst acc) → Same H1 H5 → Iv (i + 1) (acc ++ [y]) (hide D H5) → KK y H5) →
      ∀ R : L2.St → Hp → Prop, (∀ σ3 H3, wipe σ3 vs1 = wipe σ2 vs1 → te σ3 H3 KK → R σ3 H3) → g1 (va i) (wipe σ2 vs1) H2 R)
    (done : ∀ acc H2, H2 D = some (.lst acc) → Same H1 H2 → Iv n acc (hide D H2) → Nx H2) : Inn2 g1 tYes te vs1 D σ2 Nx J H4 :=
  inner_any (fun σ3 Nx1 H3 => tYes σ3 H3 fun b H6 => if b = true then te σ3 H6 fun y H7 => ∃ acc, H7 D = some (.lst acc) ∧ acc.length < sizeLine ∧ Nx1 (upd H7 D (.lst (acc ++ [y]))) else Nx1 H6) Iv jv hD h0 S0 hG i0 (fun i acc H2 Nx' h1 h2 h3 h4 h5 R hR => step i acc H2 h1 h2 h3 h4 _ (fun y H5 q1 q2 q3 => app_end (hl _ _ _ h4) q1 (h5 (acc ++ [y]) (upd H5 D (.lst (acc ++ [y]))) upd_same (q2.set hD) (by rw [hide_upd]; exact q3))) R fun σ3 H3 e q => hR σ3 H3 ⟨e, by refine g_yes ?_; exact iteT q⟩) done
theorem g_in3 {J : It} {H4 : Hp} {acc0 : List V} (Iv : Nat → List V → Hp → Prop) (hl : ∀ i acc H, Iv i acc H → acc.length ≤ 100000) (jv : ItV J n va G) (hD : H1 D = none) (h0 : H4 D = some (.lst acc0)) (S0 : Same H1 H4) (hG : ∀ H2, Same H1 H2 → G H2) (i0 : Iv 0 acc0 (hide D H4))
    (step : ∀ i acc H2, i < n → H2 D = some (.lst acc) → Same H1 H2 → Iv i acc (hide D H2) → ∀ KK : VK, (∀ y H5, H5 D = some (.lst acc) → Same H1 H5 → Iv (i + 1) (acc ++ [y]) (hide D H5) → KK y H5) →
      ∀ R : L2.St → Hp → Prop, (∀ σ9 H3, wipe σ9 vs2 = wipe σ3 vs2 → te σ9 H3 KK → R σ9 H3) → g2 (va i) (wipe σ3 vs2) H2 R)
    (done : ∀ acc H2, H2 D = some (.lst acc) → Same H1 H2 → Iv n acc (hide D H2) → Nx1 H2) : In3 g2 te vs2 D σ3 Nx1 J H4 :=
  inner_any (fun σ4 Nx2 H5 => te σ4 H5 fun y H7 => ∃ acc, H7 D = some (.lst acc) ∧ acc.length < sizeLine ∧ Nx2 (upd H7 D (.lst (acc ++ [y])))) Iv jv hD h0 S0 hG i0 (fun i acc H2 Nx' h1 h2 h3 h4 h5 R hR => step i acc H2 h1 h2 h3 h4 _ (fun y H5 q1 q2 q3 => app_end (hl _ _ _ h4) q1 (h5 (acc ++ [y]) (upd H5 D (.lst (acc ++ [y]))) upd_same (q2.set hD) (by rw [hide_upd]; exact q3))) R fun σ3 H3 e q => hR σ3 H3 ⟨e, q⟩) done
end

end PP
namespace PP
open PySem PySem.Spec PyProof.Rows L2
/-- a name's new value, in a state that is written out -/
local macro_rules | `(tactic| walk_at "set") => `(tactic| (simp only [List.set_cons_succ, List.set_cons_zero]; exact rfl))
local macro_rules | `(tactic| walk_at "start") => `(tactic| (refine g_start (σ' := ?sgm) ?hstart ?_; (case hstart => (simp only [start_eS, start_eN, start_e0]; exact rfl))))
/-- one step of a reading -/
local macro_rules | `(tactic| walk_at "g1") => `(tactic| first
  | fail)
local macro_rules | `(tactic| walk_at "go") => `(tactic| repeat (walk_at "g1"))
/-- if c: x = an int, joined -/
local macro_rules | `(tactic| walk_at "when") => `(tactic| (refine g_whenI (i0 := ?wj) (i1 := ?wi) ?wo ?wh ?_; (case wo => exact rfl); (case wh => (intro hw Q' hq; walk_at "go"; exact hq))))
/-- a heap that has only grown -/
local macro_rules | `(tactic| walk_at "same") => `(tactic| repeat (first | exact Same.refl _ | assumption | refine L2.Same.new ?_ (by assumption)))
/-- what stands at a place of a heap that has only grown -/
local macro_rules | `(tactic| walk_at "get") => `(tactic| repeat (first | exact upd_same | assumption | refine upd_get (by assumption) ?_))
/-! ### frames -/
structure Fd where
  w : Nat
  h : Nat
  d : Nat
  c : Nat
  t : Nat
structure Fd.Ok (f : Fd) : Prop where
  w : 1 ≤ f.w ∧ f.w ≤ 4
  h : 1 ≤ f.h ∧ f.h ≤ 4
  d : 1 ≤ f.d ∧ f.d ≤ 3
  c : f.c = 1 ∨ f.c = 3
  t : 1 ≤ f.t ∧ f.t ≤ 2
def Fd.acr (f : Fd) : Nat := (f.w + f.t - 1) / f.t
def Fd.dwn (f : Fd) : Nat := (f.h + f.t - 1) / f.t
def Fd.tls (f : Fd) : Nat := f.acr * f.dwn
def frF (f : Fd) : List (Str × V) := [("width", .int f.w), ("height", .int f.h), ("depth", .int f.d), ("channels", .int f.c), ("tile", .int f.t)]
def FrAt (CF : Addr) (H : Hp) (a : Addr) (f : Fd) : Prop := ∃ dx, H a = some (.ins CF dx (frF f))
theorem FrAt.up {CF : Addr} {H H' : Hp} {a : Addr} {f : Fd} (h : FrAt CF H a f) (S : Same H H') : FrAt CF H' a f := by
  obtain ⟨dx, e⟩ := h
  exact ⟨dx, S _ _ e⟩
/-- a field's reading -/
def FldC (K : PySem.W.Frag) (f : Str) (x : V) (H : Hp) (Q : VK) : Prop := ∃ a C dx fs v, x = .ref a ∧ H a = some (.ins C dx fs) ∧ Cls K C ∧ NoAttr K C f ∧ fs.lookup f = some v ∧ Q v H
theorem g_fldC {σ : L2.St} {H : Hp} {Q : VK} {ta : TE} {K : PySem.W.Frag} {f : Str} (q : ta σ H fun x H1 => FldC K f x H1 Q) : tFld K ta f σ H Q := q
section
variable {K : PySem.W.Frag} {mg : Str → Option Value} {CF CA CP : Addr} {H : Hp} {a : Addr} {f : Fd} {Q : VK}
theorem g_frw (T : Tx K mg CF CA CP) (h : FrAt CF H a f) (q : Q (.int f.w) H) : FldC K "width" (.ref a) H Q := by
  obtain ⟨dx, e⟩ := h
  exact ⟨a, CF, dx, frF f, _, rfl, e, T.cF.cl, T.cF.na _ (by decide +kernel), rfl, q⟩
theorem g_frh (T : Tx K mg CF CA CP) (h : FrAt CF H a f) (q : Q (.int f.h) H) : FldC K "height" (.ref a) H Q := by
  obtain ⟨dx, e⟩ := h
  exact ⟨a, CF, dx, frF f, _, rfl, e, T.cF.cl, T.cF.na _ (by decide +kernel), rfl, q⟩
theorem g_frd (T : Tx K mg CF CA CP) (h : FrAt CF H a f) (q : Q (.int f.d) H) : FldC K "depth" (.ref a) H Q := by
  obtain ⟨dx, e⟩ := h
  exact ⟨a, CF, dx, frF f, _, rfl, e, T.cF.cl, T.cF.na _ (by decide +kernel), rfl, q⟩
theorem g_frc (T : Tx K mg CF CA CP) (h : FrAt CF H a f) (q : Q (.int f.c) H) : FldC K "channels" (.ref a) H Q := by
  obtain ⟨dx, e⟩ := h
  exact ⟨a, CF, dx, frF f, _, rfl, e, T.cF.cl, T.cF.na _ (by decide +kernel), rfl, q⟩
theorem g_frt (T : Tx K mg CF CA CP) (h : FrAt CF H a f) (q : Q (.int f.t) H) : FldC K "tile" (.ref a) H Q := by
  obtain ⟨dx, e⟩ := h
  exact ⟨a, CF, dx, frF f, _, rfl, e, T.cF.cl, T.cF.na _ (by decide +kernel), rfl, q⟩
/-- a method's call -/
def MetC (C : Addr) (m : Str) (t : TA) (sp : Sp) (E : XK) (σ : L2.St) (Q : VK) (x : V) (H1 : Hp) : Prop := ∃ a dx fs, x = .ref a ∧ H1 a = some (.ins C dx fs) ∧ fs.lookup m = none ∧ t σ H1 fun vs H2 => sp (x :: (vs ++ [])) H2 Q E
theorem g_met {C : Addr} {m : Str} {sp : Sp} {σ : L2.St} {E : XK} {ta : TE} {t : TA} (q : ta σ H fun x H1 => MetC C m t sp E σ Q x H1) : tMeth C m sp [] E ta t σ H Q := q
theorem g_meF {m : Str} {sp : Sp} {σ : L2.St} {E : XK} {t : TA} (h : FrAt CF H a f) (hl : (frF f).lookup m = none) (q : t σ H fun vs H2 => sp (.ref a :: (vs ++ [])) H2 Q E) : MetC CF m t sp E σ Q (.ref a) H := by
  obtain ⟨dx, e⟩ := h
  exact ⟨a, dx, frF f, rfl, e, hl, q⟩
theorem lt_putF {fl : Str} {v : V} {n : Nat} : ∀ {fs : List (Str × V)}, fs.length < n → (putF fl v fs).length < n + 1
  | [], h => by
    show 1 < n + 1
    have : 0 < n := h
    omega
  | (g, x) :: r, h => by
    unfold putF
    split
    · rw [List.length_cons] at h ⊢
      omega
    · rw [List.length_cons] at h ⊢
      have h2 : r.length < n - 1 := by omega
      have := lt_putF (fl := fl) (v := v) h2
      omega
/-- a field's store -/
def SfC (K : PySem.W.Frag) (f : Str) (y : V) (D : Ends) (σ : L2.St) (x : V) (H2 : Hp) : Prop := ∃ a C dx fs, x = .ref a ∧ H2 a = some (.ins C dx fs) ∧ Cls K C ∧ NoAttr K C f ∧ fs.length < 1000 ∧ D.nx σ (upd H2 a (.ins C dx (putF f y fs)))
theorem g_sfld {ta tv : TE} {D : Ends} {σ : L2.St} {fl : Str} (q : tv σ H fun y H1 => ta σ H1 fun x H2 => SfC K fl y D σ x H2) : sFld K ta tv fl D σ H := q
theorem g_sfc {fl : Str} {y : V} {D : Ends} {σ : L2.St} {C dx : Addr} {fs : List (Str × V)} {ms : List Str} (cd : ClsD K C ms) (h : H a = some (.ins C dx fs)) (hm : fl ∈ ms) (hl : fs.length < 1000) (q : D.nx σ (upd H a (.ins C dx (putF fl y fs)))) : SfC K fl y D σ (.ref a) H :=
  ⟨a, C, dx, fs, rfl, h, cd.cl, cd.na _ hm, hl, q⟩
end
theorem fdiv_nat {x : Int} {a b : Nat} (e : x = (a : Int)) : x.fdiv (b : Int) = ((a / b : Nat) : Int) := by
  rw [e, Int.fdiv_eq_ediv_of_nonneg _ (by omega)]
  exact (Int.natCast_ediv a b).symm
theorem Fd.Ok.acr {f : Fd} (h : f.Ok) : 1 ≤ f.acr ∧ f.acr ≤ 5 := by
  have h1 := h.w; have h2 := h.t
  refine ⟨Nat.le_div_iff_mul_le (by omega) |>.mpr (by omega), Nat.le_trans (Nat.div_le_self _ _) (by omega)⟩
theorem Fd.Ok.dwn {f : Fd} (h : f.Ok) : 1 ≤ f.dwn ∧ f.dwn ≤ 5 := by
  have h1 := h.h; have h2 := h.t
  refine ⟨Nat.le_div_iff_mul_le (by omega) |>.mpr (by omega), Nat.le_trans (Nat.div_le_self _ _) (by omega)⟩
theorem Fd.Ok.tls {f : Fd} (h : f.Ok) : 1 ≤ f.tls ∧ f.tls ≤ 25 := by
  have h1 := h.acr; have h2 := h.dwn
  exact ⟨Nat.mul_le_mul h1.1 h2.1, Nat.mul_le_mul h1.2 h2.2⟩
theorem Fd.Ok.cc {f : Fd} (h : f.Ok) : 1 ≤ f.c ∧ f.c ≤ 3 := by
  have := h.c
  omega
theorem Fd.Ok.whc {f : Fd} (h : f.Ok) : f.w * f.h * f.c ≤ 48 := Nat.mul_le_mul (Nat.mul_le_mul h.w.2 h.h.2) h.cc.2
theorem Fd.Ok.wh {f : Fd} (h : f.Ok) : f.w * f.h ≤ 16 := Nat.mul_le_mul h.w.2 h.h.2

end PP
namespace PP
open PySem PySem.Spec PyProof.Rows L2
/-- a name's new value, in a state that is written out -/
local macro_rules | `(tactic| walk_at "set") => `(tactic| (simp only [List.set_cons_succ, List.set_cons_zero]; exact rfl))
local macro_rules | `(tactic| walk_at "start") => `(tactic| (refine g_start (σ' := ?sgm) ?hstart ?_; (case hstart => (simp only [start_eS, start_eN, start_e0]; exact rfl))))
/-- one step of a reading -/
local macro_rules | `(tactic| walk_at "g1") => `(tactic| first
  | ((with_reducible refine g_var (v := ?vv) ?hvv ?_); (case hvv => exact rfl))
  | with_reducible first
    | refine g_c ?_
    | refine g_op ?_
    | refine g_I0 ?_
    | refine g_tst ?_
    | refine g_blc ?_
    | refine g_seq ?_
    | refine g_ret ?_
    | refine g_if ?_
    | refine g_and ?_
    | refine g_not ?_
    | refine g_neI ?_
    | refine g_cons ?_
    | refine g_nil ?_
    | refine g_call ?_
    | refine g_fldC ?_
    | refine g_met ?_
    | refine g_meF (by assumption) rfl ?_
    | refine g_sfld ?_
    | refine g_frw (by assumption) (by assumption) ?_
    | refine g_frh (by assumption) (by assumption) ?_
    | refine g_frt (by assumption) (by assumption) ?_
    | refine g_drop ?_
    | refine g_nx ?_
    | refine g_rt ?_
    | refine g_nxt ?_
    | refine g_chain ?_
    | refine g_false ?_
    | refine g_dT (by omega) ?_
    | refine g_dF (by omega) ?_
    | refine g_ndT (by omega) ?_
    | refine g_ndF (by omega) ?_
  | ((with_reducible refine g_I ?hcc ?_); (case hcc => first | (intro hz; omega) | omega | exact Or.inl (by omega) | exact Or.inr (by omega) | exact ⟨by omega, by omega, by omega⟩ | exact ⟨by omega, by omega⟩)))
local macro_rules | `(tactic| walk_at "go") => `(tactic| repeat (walk_at "g1"))
/-- if c: x = an int, joined -/
local macro_rules | `(tactic| walk_at "when") => `(tactic| (refine g_whenI (i0 := ?wj) (i1 := ?wi) ?wo ?wh ?_; (case wo => exact rfl); (case wh => (intro hw Q' hq; walk_at "go"; exact hq))))
/-- a heap that has only grown -/
local macro_rules | `(tactic| walk_at "same") => `(tactic| repeat (first | exact Same.refl _ | assumption | refine L2.Same.new ?_ (by assumption)))
/-- what stands at a place of a heap that has only grown -/
local macro_rules | `(tactic| walk_at "get") => `(tactic| repeat (first | exact upd_same | assumption | refine upd_get (by assumption) ?_))
def sp_check_shape : Sp := fun vs H Q _ => ∃ f : Fd, vs = [.int f.w, .int f.h, .int f.d, .int f.c] ∧ f.Ok ∧ Q .non H
def sp_check_size : Sp := fun vs H Q _ => ∃ f : Fd, vs = [.int f.w, .int f.h, .int f.c] ∧ f.Ok ∧ Q .non H
def sp_Frame_init (CF : Addr) : Sp := fun vs H Q _ => ∃ (f : Fd) (a dx : Addr), vs = [.ref a, .int f.w, .int f.h, .int f.d, .int f.c, .int f.t] ∧ f.Ok ∧ H a = some (.ins CF dx []) ∧ Q .non (upd H a (.ins CF dx (frF f)))
def sp_Frame_across (CF : Addr) : Sp := fun vs H Q _ => ∃ (f : Fd) (a : Addr), vs = [.ref a] ∧ FrAt CF H a f ∧ f.Ok ∧ Q (.int (f.acr : Nat)) H
def sp_Frame_down (CF : Addr) : Sp := fun vs H Q _ => ∃ (f : Fd) (a : Addr), vs = [.ref a] ∧ FrAt CF H a f ∧ f.Ok ∧ Q (.int (f.dwn : Nat)) H
def sp_Frame_tiles (CF : Addr) : Sp := fun vs H Q _ => ∃ (f : Fd) (a : Addr), vs = [.ref a] ∧ FrAt CF H a f ∧ f.Ok ∧ Q (.int (f.tls : Nat)) H
def sp_Frame_pixels (CF : Addr) : Sp := fun vs H Q _ => ∃ (f : Fd) (a : Addr), vs = [.ref a] ∧ FrAt CF H a f ∧ f.Ok ∧ Q (.int (f.w * f.h : Nat)) H
section
variable {P : Program} {wd : World} {K : PySem.W.Frag} {mg : Str → Option Value} {base : Heap} {CF CA CP : Addr}

theorem sc_check_shape : FnScope ["width", "height", "depth", "channels"] ["width", "height", "depth", "channels"] (defScope s_check_shape) := ⟨rfl, rfl, rfl, by decide +kernel, rfl, by decide +kernel, by decide +kernel⟩
theorem cal_check_shape (T : Tx K mg CF CA CP) : Cal P wd K mg base 1 "check_shape" ["width", "height", "depth", "channels"] sp_check_shape := by
  refine T.cal (d := d_check_shape) 33 rfl sc_check_shape (fun _ _ _ _ _ _ us hl => match us, hl with | [_, _, _, _], _ => rfl) (fun vs H Q E h => ?_) (fun f cdv A outer s H vs Q E hr h => ?_)
  · obtain ⟨f, rfl, _⟩ := h
    rfl
  · obtain ⟨f, rfl, ok, k⟩ := h
    refine ⟨_, (pss_cons (ps_if (pt_not (pt_chain op_le op_le pe_int (pv 0) (pe_gi (T.nums 29 _ _ rfl))))
      pss_never
      pss_nil)
      (pss_cons (ps_if (pt_not (pt_chain op_le op_le pe_int (pv 1) (pe_gi (T.nums 29 _ _ rfl))))
      pss_never
      pss_nil)
      (pss_cons (ps_if (pt_not (pt_chain op_le op_le pe_int (pv 2) (pe_gi (T.nums 31 _ _ rfl))))
      pss_never
      pss_nil)
      (pss_one (ps_if (PW.pt (pw_and (pt_cmpR op_ne (pv 3) pe_int (nomark _)) (pw_and1 (pt_cmpR op_ne (pv 3) pe_int (nomark _)))))
      pss_never
      pss_nil))))), ?_⟩
    walk_at "start"
    have h1 := ok.w; have h2 := ok.h; have h3 := ok.d; have h4 := ok.c
    walk_at "go"
    rcases h4 with e | e
    · rw [e]
      walk_at "go"
      exact k
    · rw [e]
      walk_at "go"
      exact k
theorem sc_check_size : FnScope ["width", "height", "channels"] ["width", "height", "channels"] (defScope s_check_size) := ⟨rfl, rfl, rfl, by decide +kernel, rfl, by decide +kernel, by decide +kernel⟩
theorem cal_check_size (T : Tx K mg CF CA CP) : Cal P wd K mg base 1 "check_size" ["width", "height", "channels"] sp_check_size := by
  refine T.cal (d := d_check_size) 34 rfl sc_check_size (fun _ _ _ _ _ _ us hl => match us, hl with | [_, _, _], _ => rfl) (fun vs H Q E h => ?_) (fun f cdv A outer s H vs Q E hr h => ?_)
  · obtain ⟨f, rfl, _⟩ := h
    rfl
  · obtain ⟨f, rfl, ok, k⟩ := h
    refine ⟨_, (pss_one (ps_if (pt_cmpR op_gt (pe_op op_mul (pe_op op_mul (pv 0) (pv 1)) (pv 2)) (pe_gi (T.nums 30 _ _ rfl)) (nomark _))
      pss_never
      pss_nil)), ?_⟩
    walk_at "start"
    have h1 := ok.w; have h2 := ok.h; have h3 := ok.cc; have h4 := ok.whc
    have h5 : (f.w : Int) * (f.h : Int) * (f.c : Int) ≤ 48 := by exact_mod_cast h4
    walk_at "go"
    exact k
theorem sc_Frame_init : FnScope ["self", "width", "height", "depth", "channels", "tile"] ["self", "width", "height", "depth", "channels", "tile"] (defScope s_Frame_init) := ⟨rfl, rfl, rfl, by decide +kernel, rfl, by decide +kernel, by decide +kernel⟩
theorem mcal_Frame_init (T : Tx K mg CF CA CP) : MCal P wd K mg base 2 CF "__init__" ["self", "width", "height", "depth", "channels", "tile"] (sp_Frame_init CF) := by
  obtain ⟨f0, M0⟩ := T.mF 0 d_Frame_init rfl
  refine mcal_of M0 sc_Frame_init (fun _ _ _ _ _ _ us hl => match us, hl with | [_, _, _, _, _, _], _ => rfl) (fun vs H Q E h => ?_) (fun f cdv A outer s H vs Q E hr h => ?_)
  · obtain ⟨f, a, dx, rfl, _⟩ := h
    rfl
  · obtain ⟨f, a, dx, rfl, ok, ha, k⟩ := h
    refine ⟨_, (pss_cons (ps_expr (pe_cal (cal_check_shape T) hr (pa_cons (pv 1) (pa_cons (pv 2) (pa_cons (pv 3) (pa_cons (pv 4) pa_nil))))))
      (pss_cons (ps_if (pt_not (pt_chain op_le op_le pe_int (pv 5) (pe_gi (T.nums 32 _ _ rfl))))
      pss_never
      pss_nil)
      (pss_cons (ps_expr (pe_cal (cal_check_size T) hr (pa_cons (pv 1) (pa_cons (pv 2) (pa_cons (pv 4) pa_nil)))))
      (pss_cons (ps_fld (pv 0) (pv 1) rfl)
      (pss_cons (ps_fld (pv 0) (pv 2) rfl)
      (pss_cons (ps_fld (pv 0) (pv 3) rfl)
      (pss_cons (ps_fld (pv 0) (pv 4) rfl)
      (pss_one (ps_fld (pv 0) (pv 5) rfl))))))))), ?_⟩
    walk_at "start"
    have h2 := ok.t
    walk_at "go"
    refine ⟨f, rfl, ok, ?_⟩
    walk_at "go"
    refine ⟨f, rfl, ok, ?_⟩
    walk_at "go"
    refine g_sfc T.cF ha (by decide +kernel) (by repeat (first | decide | refine lt_putF ?_)) ?_
    walk_at "go"
    refine g_sfc T.cF upd_same (by decide +kernel) (by repeat (first | decide | refine lt_putF ?_)) ?_
    rw [upd_upd]
    walk_at "go"
    refine g_sfc T.cF upd_same (by decide +kernel) (by repeat (first | decide | refine lt_putF ?_)) ?_
    rw [upd_upd]
    walk_at "go"
    refine g_sfc T.cF upd_same (by decide +kernel) (by repeat (first | decide | refine lt_putF ?_)) ?_
    rw [upd_upd]
    walk_at "go"
    refine g_sfc T.cF upd_same (by decide +kernel) (by repeat (first | decide | refine lt_putF ?_)) ?_
    rw [upd_upd]
    exact k
theorem sc_Frame_across : FnScope ["self"] ["self"] (defScope s_Frame_across) := ⟨rfl, rfl, rfl, by decide +kernel, rfl, by decide +kernel, by decide +kernel⟩
theorem mcal_Frame_across (T : Tx K mg CF CA CP) : MCal P wd K mg base 1 CF "across" ["self"] (sp_Frame_across CF) := by
  obtain ⟨f0, M0⟩ := T.mF 1 d_Frame_across rfl
  refine mcal_of M0 sc_Frame_across (fun _ _ _ _ _ _ us hl => match us, hl with | [_], _ => rfl) (fun vs H Q E h => ?_) (fun f cdv A outer s H vs Q E hr h => ?_)
  · obtain ⟨f, a, rfl, _⟩ := h
    rfl
  · obtain ⟨f, a, rfl, hF, ok, k⟩ := h
    refine ⟨_, (pss_one (ps_ret (pe_op op_fdivN (pe_op op_sub (pe_op op_add (pe_fldK (K := K) (pv 0) rfl) (pe_fldK (K := K) (pv 0) rfl)) pe_int) (pe_fldK (K := K) (pv 0) rfl)))), ?_⟩
    walk_at "start"
    have h1 := ok.w; have h2 := ok.t
    walk_at "go"
    rw [fdiv_nat (a := f.w + f.t - 1) (by omega)]
    exact k
theorem sc_Frame_down : FnScope ["self"] ["self"] (defScope s_Frame_down) := ⟨rfl, rfl, rfl, by decide +kernel, rfl, by decide +kernel, by decide +kernel⟩
theorem mcal_Frame_down (T : Tx K mg CF CA CP) : MCal P wd K mg base 1 CF "down" ["self"] (sp_Frame_down CF) := by
  obtain ⟨f0, M0⟩ := T.mF 2 d_Frame_down rfl
  refine mcal_of M0 sc_Frame_down (fun _ _ _ _ _ _ us hl => match us, hl with | [_], _ => rfl) (fun vs H Q E h => ?_) (fun f cdv A outer s H vs Q E hr h => ?_)
  · obtain ⟨f, a, rfl, _⟩ := h
    rfl
  · obtain ⟨f, a, rfl, hF, ok, k⟩ := h
    refine ⟨_, (pss_one (ps_ret (pe_op op_fdivN (pe_op op_sub (pe_op op_add (pe_fldK (K := K) (pv 0) rfl) (pe_fldK (K := K) (pv 0) rfl)) pe_int) (pe_fldK (K := K) (pv 0) rfl)))), ?_⟩
    walk_at "start"
    have h1 := ok.h; have h2 := ok.t
    walk_at "go"
    rw [fdiv_nat (a := f.h + f.t - 1) (by omega)]
    exact k
theorem sc_Frame_tiles : FnScope ["self"] ["self"] (defScope s_Frame_tiles) := ⟨rfl, rfl, rfl, by decide +kernel, rfl, by decide +kernel, by decide +kernel⟩
theorem mcal_Frame_tiles (T : Tx K mg CF CA CP) : MCal P wd K mg base 2 CF "tiles" ["self"] (sp_Frame_tiles CF) := by
  obtain ⟨f0, M0⟩ := T.mF 3 d_Frame_tiles rfl
  refine mcal_of M0 sc_Frame_tiles (fun _ _ _ _ _ _ us hl => match us, hl with | [_], _ => rfl) (fun vs H Q E h => ?_) (fun f cdv A outer s H vs Q E hr h => ?_)
  · obtain ⟨f, a, rfl, _⟩ := h
    rfl
  · obtain ⟨f, a, rfl, hF, ok, k⟩ := h
    refine ⟨_, (pss_one (ps_ret (pe_op op_mul (pe_mcal0 T.cF.cl (mcal_Frame_across T) hr (pv 0)) (pe_mcal0 T.cF.cl (mcal_Frame_down T) hr (pv 0))))), ?_⟩
    walk_at "start"
    have h1 := ok.acr; have h2 := ok.dwn
    walk_at "go"
    refine ⟨f, a, rfl, hF, ok, ?_⟩
    walk_at "go"
    refine ⟨f, a, rfl, hF, ok, ?_⟩
    walk_at "go"
    exact k
theorem sc_Frame_pixels : FnScope ["self"] ["self"] (defScope s_Frame_pixels) := ⟨rfl, rfl, rfl, by decide +kernel, rfl, by decide +kernel, by decide +kernel⟩
theorem mcal_Frame_pixels (T : Tx K mg CF CA CP) : MCal P wd K mg base 1 CF "pixels" ["self"] (sp_Frame_pixels CF) := by
  obtain ⟨f0, M0⟩ := T.mF 4 d_Frame_pixels rfl
  refine mcal_of M0 sc_Frame_pixels (fun _ _ _ _ _ _ us hl => match us, hl with | [_], _ => rfl) (fun vs H Q E h => ?_) (fun f cdv A outer s H vs Q E hr h => ?_)
  · obtain ⟨f, a, rfl, _⟩ := h
    rfl
  · obtain ⟨f, a, rfl, hF, ok, k⟩ := h
    refine ⟨_, (pss_one (ps_ret (pe_op op_mul (pe_fldK (K := K) (pv 0) rfl) (pe_fldK (K := K) (pv 0) rfl)))), ?_⟩
    walk_at "start"
    have h1 := ok.w; have h2 := ok.h
    walk_at "go"
    exact k
end

end PP
namespace PP
open PySem PySem.Spec PyProof.Rows L2
/-- a name's new value, in a state that is written out -/
local macro_rules | `(tactic| walk_at "set") => `(tactic| (simp only [List.set_cons_succ, List.set_cons_zero]; exact rfl))
local macro_rules | `(tactic| walk_at "start") => `(tactic| (refine g_start (σ' := ?sgm) ?hstart ?_; (case hstart => (simp only [start_eS, start_eN, start_e0]; exact rfl))))
/-- one step of a reading -/
local macro_rules | `(tactic| walk_at "g1") => `(tactic| first
  | fail)
local macro_rules | `(tactic| walk_at "go") => `(tactic| repeat (walk_at "g1"))
/-- if c: x = an int, joined -/
local macro_rules | `(tactic| walk_at "when") => `(tactic| (refine g_whenI (i0 := ?wj) (i1 := ?wi) ?wo ?wh ?_; (case wo => exact rfl); (case wh => (intro hw Q' hq; walk_at "go"; exact hq))))
/-- a heap that has only grown -/
local macro_rules | `(tactic| walk_at "same") => `(tactic| repeat (first | exact Same.refl _ | assumption | refine L2.Same.new ?_ (by assumption)))
/-- what stands at a place of a heap that has only grown -/
local macro_rules | `(tactic| walk_at "get") => `(tactic| repeat (first | exact upd_same | assumption | refine upd_get (by assumption) ?_))
/-! ### tiles -/
def Fd.left (f : Fd) (i : Nat) : Nat := i % f.acr * f.t
def Fd.top (f : Fd) (i : Nat) : Nat := i / f.acr * f.t
def Fd.tw (f : Fd) (i : Nat) : Nat := min f.t (f.w - f.left i)
def Fd.th (f : Fd) (i : Nat) : Nat := min f.t (f.h - f.top i)
theorem tile_all : ∀ w ∈ [1, 2, 3, 4], ∀ h ∈ [1, 2, 3, 4], ∀ t ∈ [1, 2], ∀ i ∈ List.range 25, i < (Fd.mk w h 1 1 t).tls → ((Fd.mk w h 1 1 t).left i < w ∧ (Fd.mk w h 1 1 t).top i < h) ∧ ((Fd.mk w h 1 1 t).tw i, (Fd.mk w h 1 1 t).tw i * (Fd.mk w h 1 1 t).th i) ∈ shapes ∧
    (1 ≤ (Fd.mk w h 1 1 t).tw i ∧ (Fd.mk w h 1 1 t).tw i ≤ 2) ∧ (1 ≤ (Fd.mk w h 1 1 t).th i ∧ (Fd.mk w h 1 1 t).th i ≤ 2) ∧
    ∀ y ∈ List.range ((Fd.mk w h 1 1 t).th i), ∀ x ∈ List.range ((Fd.mk w h 1 1 t).tw i), ((Fd.mk w h 1 1 t).top i + y) * w + (Fd.mk w h 1 1 t).left i + x < w * h := by decide +kernel
theorem mem14 {n : Nat} (h : 1 ≤ n ∧ n ≤ 4) : n ∈ [1, 2, 3, 4] := by
  have : n = 1 ∨ n = 2 ∨ n = 3 ∨ n = 4 := by omega
  simpa using this
theorem mem12 {n : Nat} (h : 1 ≤ n ∧ n ≤ 2) : n ∈ [1, 2] := by
  have : n = 1 ∨ n = 2 := by omega
  simpa using this
theorem Fd.Ok.tile {f : Fd} (ok : f.Ok) {i : Nat} (hi : i < f.tls) : (f.left i < f.w ∧ f.top i < f.h) ∧ (f.tw i, f.tw i * f.th i) ∈ shapes ∧ (1 ≤ f.tw i ∧ f.tw i ≤ 2) ∧ (1 ≤ f.th i ∧ f.th i ≤ 2) ∧
    ∀ y ∈ List.range (f.th i), ∀ x ∈ List.range (f.tw i), (f.top i + y) * f.w + f.left i + x < f.w * f.h :=
  tile_all f.w (mem14 ok.w) f.h (mem14 ok.h) f.t (mem12 ok.t) i (List.mem_range.mpr (by have := ok.tls; omega)) hi
theorem min_cast {w l t : Nat} (h : l ≤ w) : (if (w : Int) - (l : Int) < (t : Int) then (w : Int) - (l : Int) else (t : Int)) = ((min t (w - l) : Nat) : Int) := by
  split <;> omega
def pixRow (f : Fd) (i y : Nat) : List Nat := (List.range (f.tw i)).map fun x => (f.top i + y) * f.w + f.left i + x
def pixsM (f : Fd) (i : Nat) : List Nat := (List.range (f.th i)).flatMap (pixRow f i)
theorem pixsM_len (f : Fd) (i : Nat) (n : Nat) : ((List.range n).flatMap (pixRow f i)).length = n * f.tw i := by
  induction n with
  | zero => simp
  | succ n ih =>
    rw [List.range_succ, List.flatMap_append, List.length_append, ih, Nat.succ_mul]
    simp [pixRow]
theorem g_lrev {σ : L2.St} {H : Hp} {Q : VK} {te : L2.St → Hp → (Int → Int → Hp → Prop) → Prop} (q : te σ H fun a b H1 => RgOk a b ∧ ∀ q, H1 q = none → Q (.ref q) (upd H1 q (.lst ((List.range (b - a).toNat).map fun i => V.int (b - 1 - (i : Nat)))))) : tLstRev te σ H Q := q
def revL (n : Nat) : List V := (List.range n).map fun i => V.int (n - 1 - i : Nat)
theorem revE (n : Nat) : ((List.range ((n : Int) - 0).toNat).map fun i => V.int ((n : Int) - 1 - (i : Nat))) = revL n := by
  have e1 : ((n : Int) - 0).toNat = n := by omega
  rw [e1]
  unfold revL
  refine List.map_congr_left fun i hi => ?_
  have := List.mem_range.mp hi
  congr 1
  omega
theorem revL_get {n i : Nat} (h : i < n) : (revL n).getD i .non = .int (n - 1 - i : Nat) := by
  unfold revL
  rw [List.getD_eq_getElem?_getD, List.getElem?_map, List.getElem?_range h]
  rfl
theorem revL_len {n : Nat} : (revL n).length = n := by simp [revL]
/-! ### keys -/
abbrev K3 : Type := Nat × Nat × Nat
def keyO (k : K3) : HO := .tup [.int (k.1 : Nat), .int (k.2.1 : Nat), .int (k.2.2 : Nat)]
def KyV (H : Hp) (v : V) (k : K3) : Prop := ∃ r, v = .ref r ∧ H r = some (keyO k)
theorem KyV.up {H H' : Hp} {v : V} {k : K3} (h : KyV H v k) (S : Same H H') : KyV H' v k := by
  obtain ⟨r, e, h⟩ := h
  exact ⟨r, e, S _ _ h⟩
abbrev KsV (H : Hp) (vs : List V) (ks : List K3) : Prop := Paired (KyV H) vs ks
theorem KsV.up {H H' : Hp} {vs : List V} {ks : List K3} (h : KsV H vs ks) (S : Same H H') : KsV H' vs ks := h.mono fun _ _ h => h.up S
theorem ks_new {D r : Addr} {H : Hp} {acc acc' : List V} {ks : List K3} {k : K3} (hacc : H D = some (.lst acc')) (hr : H r = none) (h : KsV (hide D H) acc ks) : KsV (hide D (upd H r (keyO k))) (acc ++ [.ref r]) (ks ++ [k]) := by
  refine Paired.snoc (h.up (same_new hr).hide) ⟨r, rfl, ?_⟩
  rw [hide_ne (fun e => by rw [e, hacc] at hr; cases hr)]
  exact upd_same
def Fd.tm (f : Fd) (k : K3) : Nat := f.tw k.2.1 * f.th k.2.1
def okKey (f : Fd) (k : K3) : Prop := k.1 < f.c ∧ k.2.1 < f.tls ∧ k.2.2 < f.d
def keyRow (f : Fd) (e c : Nat) : List K3 := (List.range f.tls).map fun i => (c, i, f.d - 1 - e)
def keyPl (f : Fd) (e : Nat) : List K3 := (List.range f.c).flatMap (keyRow f e)
def keysM (f : Fd) : List K3 := (List.range f.d).flatMap (keyPl f)
theorem keyRow_len (f : Fd) (e c : Nat) : (keyRow f e c).length = f.tls := by simp [keyRow]
theorem keyPl_len (f : Fd) (e n : Nat) : ((List.range n).flatMap (keyRow f e)).length = n * f.tls := by
  induction n with
  | zero => simp
  | succ n ih =>
    rw [List.range_succ, List.flatMap_append, List.length_append, ih, Nat.succ_mul]
    simp [keyRow_len]
theorem keysM_len (f : Fd) (n : Nat) : ((List.range n).flatMap (keyPl f)).length = n * (f.c * f.tls) := by
  induction n with
  | zero => simp
  | succ n ih =>
    rw [List.range_succ, List.flatMap_append, List.length_append, ih, Nat.succ_mul]
    have := keyPl_len f n f.c
    simp only [List.flatMap_cons, List.flatMap_nil, List.append_nil]
    unfold keyPl
    rw [this]
theorem mem_keysM {f : Fd} {k : K3} : k ∈ keysM f ↔ okKey f k := by
  obtain ⟨c, i, p⟩ := k
  unfold keysM keyPl keyRow okKey
  simp only [List.mem_flatMap, List.mem_range, List.mem_map, Prod.mk.injEq]
  constructor
  · rintro ⟨e, he, c', hc, i', hi, rfl, rfl, rfl⟩
    exact ⟨hc, hi, by omega⟩
  · rintro ⟨hc, hi, hp⟩
    have hp : p < f.d := hp
    exact ⟨f.d - 1 - p, by omega, c, hc, i, hi, rfl, rfl, by omega⟩
theorem keysM_nodup (f : Fd) : (keysM f).Nodup := by
  unfold keysM keyPl keyRow List.Nodup
  rw [List.pairwise_flatMap]
  refine ⟨fun e he => ?_, ?_⟩
  · rw [List.pairwise_flatMap]
    refine ⟨fun c hc => ?_, ?_⟩
    · rw [List.pairwise_map]
      refine List.Pairwise.imp ?_ (List.nodup_range (n := f.tls))
      intro a b hab h
      injection h with _ h
      injection h with h _
      exact hab h
    · refine List.Pairwise.imp ?_ (List.nodup_range (n := f.c))
      intro a b hab k h1 k2 h2 e
      simp only [List.mem_map] at h1 h2
      obtain ⟨i, _, rfl⟩ := h1
      obtain ⟨j, _, rfl⟩ := h2
      injection e with h _
      exact hab h
  · have hp := List.pairwise_lt_range (n := f.d)
    refine List.Pairwise.imp_of_mem ?_ hp
    intro a b ha hb hab k h1 k2 h2 e
    have ha := List.mem_range.mp ha
    have hb := List.mem_range.mp hb
    simp only [List.mem_flatMap, List.mem_map] at h1 h2
    obtain ⟨c, _, i, _, rfl⟩ := h1
    obtain ⟨c', _, i', _, rfl⟩ := h2
    injection e with _ h
    injection h with _ h
    omega

end PP
namespace PP
open PySem PySem.Spec PyProof.Rows L2
/-- a name's new value, in a state that is written out -/
local macro_rules | `(tactic| walk_at "set") => `(tactic| (simp only [List.set_cons_succ, List.set_cons_zero]; exact rfl))
local macro_rules | `(tactic| walk_at "start") => `(tactic| (refine g_start (σ' := ?sgm) ?hstart ?_; (case hstart => (simp only [start_eS, start_eN, start_e0]; exact rfl))))
/-- one step of a reading -/
local macro_rules | `(tactic| walk_at "g1") => `(tactic| first
  | ((with_reducible refine g_var (v := ?vv) ?hvv ?_); (case hvv => exact rfl))
  | ((with_reducible refine g_nxS (σ' := ?sgm) ?hset ?_); (case hset => walk_at "set"))
  | ((with_reducible refine g_gnameS (σ' := ?sgm) ?hset ?_); (case hset => walk_at "set"))
  | with_reducible first
    | refine g_c ?_
    | refine g_op ?_
    | refine g_I0 ?_
    | refine g_tst ?_
    | refine g_blc ?_
    | refine g_seq ?_
    | refine g_set ?_
    | refine g_ret ?_
    | refine g_if ?_
    | refine g_not ?_
    | refine g_cons ?_
    | refine g_nil ?_
    | refine g_call ?_
    | refine g_cb ?_
    | refine g_fldC ?_
    | refine g_met ?_
    | refine g_meF (by assumption) rfl ?_
    | refine g_frw (by assumption) (by assumption) ?_
    | refine g_frh (by assumption) (by assumption) ?_
    | refine g_frd (by assumption) (by assumption) ?_
    | refine g_frc (by assumption) (by assumption) ?_
    | refine g_frt (by assumption) (by assumption) ?_
    | refine g_tup ?_
    | refine g_nx ?_
    | refine g_nxt ?_
    | refine g_asg ?_
    | refine g_rng1 ?_
    | refine g_rngN (by omega) ?_
    | refine g_ilst ?_
    | refine g_chain ?_
    | refine g_gname ?_
    | refine g_gcons ?_
    | refine g_gnil ?_
    | refine g_rg1 ?_
    | refine g_dT (by omega) ?_
    | refine g_ndF (by omega) ?_
  | with_reducible refine g_exI ?_
  | with_reducible refine g_exR ?_
  | ((with_reducible refine g_I ?hcc ?_); (case hcc => first | (intro hz; omega) | omega | exact Or.inl (by omega) | exact Or.inr (by omega) | exact ⟨by omega, by omega, by omega⟩ | exact ⟨by omega, by omega⟩)))
local macro_rules | `(tactic| walk_at "go") => `(tactic| repeat (walk_at "g1"))
/-- if c: x = an int, joined -/
local macro_rules | `(tactic| walk_at "when") => `(tactic| (refine g_whenI (i0 := ?wj) (i1 := ?wi) ?wo ?wh ?_; (case wo => exact rfl); (case wh => (intro hw Q' hq; walk_at "go"; exact hq))))
/-- a heap that has only grown -/
local macro_rules | `(tactic| walk_at "same") => `(tactic| repeat (first | exact Same.refl _ | assumption | refine L2.Same.new ?_ (by assumption)))
/-- what stands at a place of a heap that has only grown -/
local macro_rules | `(tactic| walk_at "get") => `(tactic| repeat (first | exact upd_same | assumption | refine upd_get (by assumption) ?_))
def sp_tile_corner (CF : Addr) : Sp := fun vs H Q _ => ∃ (f : Fd) (a : Addr) (i : Nat), vs = [.ref a, .int i] ∧ FrAt CF H a f ∧ f.Ok ∧ i < f.tls ∧ ∀ T H', Same H H' → H' T = some (.tup [.int (f.left i : Nat), .int (f.top i : Nat)]) → Q (.ref T) H'
def sp_tile_size (CF : Addr) : Sp := fun vs H Q _ => ∃ (f : Fd) (a : Addr) (i : Nat), vs = [.ref a, .int i] ∧ FrAt CF H a f ∧ f.Ok ∧ i < f.tls ∧ ∀ T H', Same H H' → H' T = some (.tup [.int (f.tw i : Nat), .int (f.th i : Nat)]) → Q (.ref T) H'
def sp_tile_pixels (CF : Addr) : Sp := fun vs H Q _ => ∃ (f : Fd) (a : Addr) (i : Nat), vs = [.ref a, .int i] ∧ FrAt CF H a f ∧ f.Ok ∧ i < f.tls ∧ ∀ D H', Same H H' → H' D = some (.lst ((pixsM f i).map fun (n : Nat) => V.int n)) → Q (.ref D) H'
def sp_all_keys (CF : Addr) : Sp := fun vs H Q _ => ∃ (f : Fd) (a : Addr), vs = [.ref a] ∧ FrAt CF H a f ∧ f.Ok ∧ ∀ D H' rs, Same H H' → H' D = some (.lst rs) → KsV H' rs (keysM f) → Q (.ref D) H'
def sp_check_key (CF : Addr) : Sp := fun vs H Q _ => ∃ (f : Fd) (a : Addr) (k : K3) (v : V), vs = [.ref a, v] ∧ FrAt CF H a f ∧ f.Ok ∧ KyV H v k ∧ okKey f k ∧ Q .non H
section
variable {P : Program} {wd : World} {K : PySem.W.Frag} {mg : Str → Option Value} {base : Heap} {CF CA CP : Addr}

theorem sc_tile_corner : FnScope ["frame", "tile", "row", "column"] ["frame", "tile"] (defScope s_tile_corner) := ⟨rfl, rfl, rfl, by decide +kernel, rfl, by decide +kernel, by decide +kernel⟩
theorem cal_tile_corner (T : Tx K mg CF CA CP) : Cal P wd K mg base 2 "tile_corner" ["frame", "tile"] (sp_tile_corner CF) := by
  refine T.cal (d := d_tile_corner) 36 rfl sc_tile_corner (fun _ _ _ _ _ _ us hl => match us, hl with | [_, _], _ => rfl) (fun vs H Q E h => ?_) (fun f cdv A outer s H vs Q E hr h => ?_)
  · obtain ⟨f, a, i, rfl, _⟩ := h
    rfl
  · obtain ⟨f, a, i, rfl, hF, ok, hi, k⟩ := h
    refine ⟨_, (pss_cons (ps_asg (pe_callB call_divmodW (by rfl) (T.nof _ (fre_divmod)) (by decide +kernel) (pa_cons (pv 1) (pa_cons (pe_mcal0 T.cF.cl (mcal_Frame_across T) hr (pv 0)) pa_nil))) (pg_tupK (K := K) (n := 2) (by rfl) (pgs_cons (pg_name (i := 2) sc_tile_corner.nd rfl (by first | exact Or.inl rfl | exact Or.inr rfl)) (pgs_cons (pg_name (i := 3) sc_tile_corner.nd rfl (by first | exact Or.inl rfl | exact Or.inr rfl)) pgs_nil))))
      (pss_one (ps_ret (pe_tup (pa_cons (pe_op op_mul (pv 3) (pe_fldK (K := K) (pv 0) rfl)) (pa_cons (pe_op op_mul (pv 2) (pe_fldK (K := K) (pv 0) rfl)) pa_nil)))))), ?_⟩
    walk_at "start"
    have h1 := ok.acr; have h2 := ok.t
    walk_at "go"
    refine ⟨f, a, rfl, hF, ok, ?_⟩
    walk_at "go"
    refine ⟨_, _, rfl, ⟨by omega, PyProof.noPylong_small (by omega)⟩, fun p hp => ?_⟩
    refine g_gtup (SqT.of upd_same) rfl ?_
    have hF := hF.up (same_new (o := .tup [.int ((i : Int) / (f.acr : Int)), .int ((i : Int) % (f.acr : Int))]) hp)
    walk_at "go"
    refine ⟨sz2, fun T hT => ?_⟩
    refine k T _ ((same_new hp).new hT) ?_
    rw [upd_same]
    unfold Fd.left Fd.top
    rw [Int.natCast_mul, Int.natCast_mul, Int.natCast_ediv, Int.natCast_emod]
theorem sc_tile_size : FnScope ["frame", "tile", "left", "top"] ["frame", "tile"] (defScope s_tile_size) := ⟨rfl, rfl, rfl, by decide +kernel, rfl, by decide +kernel, by decide +kernel⟩
theorem cal_tile_size (T : Tx K mg CF CA CP) : Cal P wd K mg base 3 "tile_size" ["frame", "tile"] (sp_tile_size CF) := by
  refine T.cal (d := d_tile_size) 37 rfl sc_tile_size (fun _ _ _ _ _ _ us hl => match us, hl with | [_, _], _ => rfl) (fun vs H Q E h => ?_) (fun f cdv A outer s H vs Q E hr h => ?_)
  · obtain ⟨f, a, i, rfl, _⟩ := h
    rfl
  · obtain ⟨f, a, i, rfl, hF, ok, hi, k⟩ := h
    refine ⟨_, (pss_cons (ps_asg (pe_cal (cal_tile_corner T) hr (pa_cons (pv 0) (pa_cons (pv 1) pa_nil))) (pg_tupK (K := K) (n := 2) (by rfl) (pgs_cons (pg_name (i := 2) sc_tile_size.nd rfl (by first | exact Or.inl rfl | exact Or.inr rfl)) (pgs_cons (pg_name (i := 3) sc_tile_size.nd rfl (by first | exact Or.inl rfl | exact Or.inr rfl)) pgs_nil))))
      (pss_one (ps_ret (pe_tup (pa_cons (pe_callB (call_min2 rfl) (by rfl) (T.nof _ (fre_min)) (by decide +kernel) (pa_cons (pe_fldK (K := K) (pv 0) rfl) (pa_cons (pe_op op_sub (pe_fldK (K := K) (pv 0) rfl) (pv 2)) pa_nil))) (pa_cons (pe_callB (call_min2 rfl) (by rfl) (T.nof _ (fre_min)) (by decide +kernel) (pa_cons (pe_fldK (K := K) (pv 0) rfl) (pa_cons (pe_op op_sub (pe_fldK (K := K) (pv 0) rfl) (pv 3)) pa_nil))) pa_nil)))))), ?_⟩
    walk_at "start"
    obtain ⟨⟨h1, h2⟩, h3, h4, h5, _⟩ := ok.tile hi
    walk_at "go"
    refine ⟨f, a, i, rfl, hF, ok, hi, fun T H1 S1 hT => ?_⟩
    have hF := hF.up S1
    refine g_gtup (SqT.of hT) rfl ?_
    walk_at "go"
    refine ⟨_, _, rfl, ?_⟩
    walk_at "go"
    refine ⟨_, _, rfl, ?_⟩
    walk_at "go"
    refine ⟨sz2, fun p hp => k p _ (S1.new hp) ?_⟩
    rw [upd_same, min_cast (by omega), min_cast (by omega)]
    rfl
theorem sc_check_key : FnScope ["frame", "key", "channel", "tile", "plane"] ["frame", "key"] (defScope s_check_key) := ⟨rfl, rfl, rfl, by decide +kernel, rfl, by decide +kernel, by decide +kernel⟩
theorem cal_check_key (T : Tx K mg CF CA CP) : Cal P wd K mg base 3 "check_key" ["frame", "key"] (sp_check_key CF) := by
  refine T.cal (d := d_check_key) 40 rfl sc_check_key (fun _ _ _ _ _ _ us hl => match us, hl with | [_, _], _ => rfl) (fun vs H Q E h => ?_) (fun f cdv A outer s H vs Q E hr h => ?_)
  · obtain ⟨f, a, ky, v, rfl, _⟩ := h
    rfl
  · obtain ⟨f, a, ky, v, rfl, hF, ok, hk, hok, k⟩ := h
    refine ⟨_, (pss_cons (ps_asg (pv 1) (pg_tupK (K := K) (n := 3) (by rfl) (pgs_cons (pg_name (i := 2) sc_check_key.nd rfl (by first | exact Or.inl rfl | exact Or.inr rfl)) (pgs_cons (pg_name (i := 3) sc_check_key.nd rfl (by first | exact Or.inl rfl | exact Or.inr rfl)) (pgs_cons (pg_name (i := 4) sc_check_key.nd rfl (by first | exact Or.inl rfl | exact Or.inr rfl)) pgs_nil)))))
      (pss_cons (ps_if (pt_not (pt_chain op_le op_lt pe_int (pv 2) (pe_fldK (K := K) (pv 0) rfl)))
      pss_never
      pss_nil)
      (pss_cons (ps_if (pt_not (pt_chain op_le op_lt pe_int (pv 3) (pe_mcal0 T.cF.cl (mcal_Frame_tiles T) hr (pv 0))))
      pss_never
      pss_nil)
      (pss_one (ps_if (pt_not (pt_chain op_le op_lt pe_int (pv 4) (pe_fldK (K := K) (pv 0) rfl)))
      pss_never
      pss_nil))))), ?_⟩
    walk_at "start"
    obtain ⟨r, e, hr2⟩ := hk
    subst e
    obtain ⟨o1, o2, o3⟩ := hok
    walk_at "go"
    refine g_gtup (SqT.of hr2) rfl ?_
    walk_at "go"
    refine ⟨f, a, rfl, hF, ok, ?_⟩
    walk_at "go"
    exact k
theorem sc_tile_pixels : FnScope ["frame", "tile", "left", "top", "width", "height", "y", "x"] ["frame", "tile"] (defScope s_tile_pixels) := ⟨rfl, rfl, rfl, by decide +kernel, rfl, by decide +kernel, by decide +kernel⟩
theorem cal_tile_pixels (T : Tx K mg CF CA CP) : Cal P wd K mg base 4 "tile_pixels" ["frame", "tile"] (sp_tile_pixels CF) := by
  refine T.cal (d := d_tile_pixels) 38 rfl sc_tile_pixels (fun _ _ _ _ _ _ us hl => match us, hl with | [_, _], _ => rfl) (fun vs H Q E h => ?_) (fun f cdv A outer s H vs Q E hr h => ?_)
  · obtain ⟨f, a, i, rfl, _⟩ := h
    rfl
  · obtain ⟨f, a, i, rfl, hF, ok, hi, k⟩ := h
    refine ⟨_, (pss_cons (ps_asg (pe_cal (cal_tile_corner T) hr (pa_cons (pv 0) (pa_cons (pv 1) pa_nil))) (pg_tupK (K := K) (n := 2) (by rfl) (pgs_cons (pg_name (i := 2) sc_tile_pixels.nd rfl (by first | exact Or.inl rfl | exact Or.inr rfl)) (pgs_cons (pg_name (i := 3) sc_tile_pixels.nd rfl (by first | exact Or.inl rfl | exact Or.inr rfl)) pgs_nil))))
      (pss_cons (ps_asg (pe_cal (cal_tile_size T) hr (pa_cons (pv 0) (pa_cons (pv 1) pa_nil))) (pg_tupK (K := K) (n := 2) (by rfl) (pgs_cons (pg_name (i := 4) sc_tile_pixels.nd rfl (by first | exact Or.inl rfl | exact Or.inr rfl)) (pgs_cons (pg_name (i := 5) sc_tile_pixels.nd rfl (by first | exact Or.inl rfl | exact Or.inr rfl)) pgs_nil))))
      (pss_one (ps_ret (pe_lc2 (own := [("y", 6), ("x", 7)]) (vs1 := [7]) rfl sc_tile_pixels.nd (pi_range1 (by rfl) (T.nof _ (fre_range)) (pa_cons (pv 5) pa_nil)) (blkOk_by (N := ["frame", "tile", "left", "top", "width", "height", "y", "x"]) (sc := defScope s_tile_pixels) (by decide +kernel)) (by decide) (fun _ _ _ _ _ => (pg_name (i := 6) sc_tile_pixels.nd rfl (by first | exact Or.inl rfl | exact Or.inr rfl))) (fun _ _ _ _ _ => pts_nil) (fun _ _ _ _ _ => (pi_range1 (by rfl) (T.nof _ (fre_range)) (pa_cons (pv 4) pa_nil))) (fun _ _ _ _ _ => (pg_name (i := 7) sc_tile_pixels.nd rfl (by first | exact Or.inl rfl | exact Or.inr rfl))) (fun _ _ _ _ _ => pts_nil) (fun _ _ _ _ _ => (pe_op op_add (pe_op op_add (pe_op op_mul (pe_op op_add (pv 3) (pv 6)) (pe_fldK (K := K) (pv 0) rfl)) (pv 2)) (pv 7)))))))), ?_⟩
    walk_at "start"
    obtain ⟨⟨h1, h2⟩, h3, h4, h5, _⟩ := ok.tile hi
    walk_at "go"
    refine ⟨f, a, i, rfl, hF, ok, hi, fun T H1 S1 hT => ?_⟩
    have hF := hF.up S1
    refine g_gtup (SqT.of hT) rfl ?_
    walk_at "go"
    refine ⟨f, a, i, rfl, hF, ok, hi, fun T2 H2 S2 hT2 => ?_⟩
    have hF := hF.up S2
    refine g_gtup (SqT.of hT2) rfl ?_
    walk_at "go"
    refine g_lc2 ?_
    walk_at "go"
    have S3 := S1.trans S2
    refine g_out2 (fun y acc _ => acc = ((List.range y).flatMap (pixRow f i)).map fun (n : Nat) => V.int n) (itv_r0 _) (fun _ _ => trivial) rfl (fun D y acc H3 Nx hy hD hacc S hI hN R hR => ?_) (fun D acc H3 hD hacc S hI => ?_)
    · walk_at "go"
      refine hR _ _ rfl ?_
      walk_at "go"
      refine g_inn2 (H1 := H2) (fun x acc' _ => x ≤ f.tw i ∧ acc' = acc ++ ((List.range x).map fun x => (f.top i + y) * f.w + f.left i + x).map fun (n : Nat) => V.int n) (fun x acc' _ h => ?_) (itv_r0 _) hD hacc S (fun _ _ => trivial) ⟨Nat.zero_le _, by simp⟩ (fun x acc' H5 hx hacc' S' hI' KK hK R hR => ?_) (fun acc' H5 hacc' S' hI' => ?_)
      · have hx : acc'.length = y * f.tw i + x := by
          rw [h.2, hI, List.length_append, List.length_map, List.length_map, List.length_map, List.length_range, pixsM_len]
        have := Nat.mul_le_mul (show y ≤ 2 by omega) h4.2
        omega
      · have hw := ok.w
        walk_at "go"
        refine hR _ _ rfl ?_
        have hF := (hF.up S')
        walk_at "go"
        refine hK _ _ hacc' S' ⟨hx, ?_⟩
        rw [hI'.2, List.range_succ, List.map_append, List.map_append, ← List.append_assoc]
        congr 1
      · refine hN acc' H5 hacc' S' ?_
        rw [hI'.2, hI, List.range_succ, List.flatMap_append, List.map_append]
        simp [pixRow]
    · refine k D H3 (S3.trans S) ?_
      rw [hacc, hI]
      rfl

theorem sc_all_keys : FnScope ["frame", "tiles", "planes", "plane", "channel", "tile"] ["frame"] (defScope s_all_keys) := ⟨rfl, rfl, rfl, by decide +kernel, rfl, by decide +kernel, by decide +kernel⟩
theorem cal_all_keys (T : Tx K mg CF CA CP) : Cal P wd K mg base 4 "all_keys" ["frame"] (sp_all_keys CF) := by
  refine T.cal (d := d_all_keys) 39 rfl sc_all_keys (fun _ _ _ _ _ _ us hl => match us, hl with | [_], _ => rfl) (fun vs H Q E h => ?_) (fun f cdv A outer s H vs Q E hr h => ?_)
  · obtain ⟨f, a, rfl, _⟩ := h
    rfl
  · obtain ⟨f, a, rfl, hF, ok, k⟩ := h
    refine ⟨_, (pss_cons (ps_set (i := 1) sc_all_keys.nd rfl (by first | exact Or.inl rfl | exact Or.inr rfl) (pe_mcal0 T.cF.cl (mcal_Frame_tiles T) hr (pv 0)))
      (pss_cons (ps_set (i := 2) sc_all_keys.nd rfl (by first | exact Or.inl rfl | exact Or.inr rfl) (pe_listRevR (by rfl) (T.nof _ (fre_list)) (by rfl) (T.nof _ (fre_reversed)) (prg_1 (by rfl) (T.nof _ (fre_range)) (pe_fldK (K := K) (pv 0) rfl))))
      (pss_one (ps_ret (pe_lc3 (own := [("plane", 3), ("channel", 4), ("tile", 5)]) (vs1 := [4, 5]) (vs2 := [5]) rfl sc_all_keys.nd (pi_listK (K := K) (pv 2)) (blkOk_by (N := ["frame", "tiles", "planes", "plane", "channel", "tile"]) (sc := defScope s_all_keys) (by decide +kernel)) (by decide) (by decide) (fun _ _ _ _ _ => (pg_name (i := 3) sc_all_keys.nd rfl (by first | exact Or.inl rfl | exact Or.inr rfl))) (fun _ _ _ _ _ => (pi_range1 (by rfl) (T.nof _ (fre_range)) (pa_cons (pe_fldK (K := K) (pv 0) rfl) pa_nil))) (fun _ _ _ _ _ => (pg_name (i := 4) sc_all_keys.nd rfl (by first | exact Or.inl rfl | exact Or.inr rfl))) (fun _ _ _ _ _ => (pi_range1 (by rfl) (T.nof _ (fre_range)) (pa_cons (pv 1) pa_nil))) (fun _ _ _ _ _ => (pg_name (i := 5) sc_all_keys.nd rfl (by first | exact Or.inl rfl | exact Or.inr rfl))) (fun _ _ _ _ _ => (pe_tup (pa_cons (pv 4) (pa_cons (pv 5) (pa_cons (pv 3) pa_nil)))))))))), ?_⟩
    walk_at "start"
    have h1 := ok.tls; have h2 := ok.d; have h3 := ok.cc
    walk_at "go"
    refine ⟨f, a, rfl, hF, ok, ?_⟩
    walk_at "go"
    refine g_lrev ?_
    walk_at "go"
    rw [revE]
    refine ⟨RgOk.of_le (by omega) (by omega) (by omega) (by omega), fun p hp => ?_⟩
    have hF := hF.up (same_new (o := .lst (revL f.d)) hp)
    walk_at "go"
    refine g_lc3 ?_
    walk_at "go"
    refine ⟨⟨_, SqL.of upd_same⟩, ?_⟩
    refine g_out3 (fun e acc H => KsV H acc ((List.range e).flatMap (keyPl f))) (itv_l p (revL f.d)) (fun H2 S => S.seq (SqL.of upd_same)) .nil (fun D e acc H3 Nx he hD hacc S hI hN R hR => ?_) (fun D acc H3 hD hacc S hI => ?_)
    · rw [revL_len] at he
      rw [revL_get he]
      have hF1 := hF
      have hF := hF1.up S
      walk_at "go"
      refine hR _ _ rfl ?_
      walk_at "go"
      refine g_mid3 (fun c acc' H => KsV H acc' ((List.range e).flatMap (keyPl f) ++ (List.range c).flatMap (keyRow f e))) (itv_r0 _) hD hacc S (fun _ _ => trivial) (by simpa using hI) (fun c acc' H5 Nx1 hc hacc' S' hI' hN' R hR => ?_) (fun acc' H5 hacc' S' hI' => ?_)
      · walk_at "go"
        refine hR _ _ rfl ?_
        walk_at "go"
        refine g_in3 (fun i acc'' H => i ≤ f.tls ∧ KsV H acc'' ((List.range e).flatMap (keyPl f) ++ (List.range c).flatMap (keyRow f e) ++ (List.range i).map fun i => (c, i, f.d - 1 - e))) (fun i acc'' H h => ?_) (itv_r0 _) hD hacc' S' (fun _ _ => trivial) ⟨Nat.zero_le _, by simpa using hI'⟩ (fun i acc'' H7 hi hacc'' S'' hI'' KK hK R hR => ?_) (fun acc'' H7 hacc'' S'' hI'' => ?_)
        · rw [h.2.length, List.length_append, List.length_append, keysM_len, keyPl_len, List.length_map, List.length_range]
          have q1 := Nat.mul_le_mul (show f.c ≤ 3 by omega) (show f.tls ≤ 25 by omega)
          have q2 := Nat.mul_le_mul (show e ≤ 3 by omega) q1
          have q3 := Nat.mul_le_mul (show c ≤ 3 by omega) (show f.tls ≤ 25 by omega)
          omega
        · walk_at "go"
          refine hR _ _ rfl ?_
          walk_at "go"
          refine ⟨sz3, fun r hr => hK _ _ (upd_get hr hacc'') (S''.new hr) ⟨hi, ?_⟩⟩
          rw [List.range_succ, List.map_append, ← List.append_assoc]
          exact ks_new (k := (c, i, f.d - 1 - e)) hacc'' hr hI''.2
        · refine hN' acc'' H7 hacc'' S'' ?_
          rw [List.range_succ, List.flatMap_append, ← List.append_assoc]
          have := hI''.2
          simpa [keyRow] using this
      · refine hN acc' H5 hacc' S' ?_
        rw [List.range_succ, List.flatMap_append]
        simpa [keyPl] using hI'
    · rw [revL_len] at hI
      exact k D H3 acc ((same_new hp).trans S) hacc (hI.up same_hide)
end

end PP
namespace PP
open PySem PySem.Spec PyProof.Rows L2
/-- a name's new value, in a state that is written out -/
local macro_rules | `(tactic| walk_at "set") => `(tactic| (simp only [List.set_cons_succ, List.set_cons_zero]; exact rfl))
local macro_rules | `(tactic| walk_at "start") => `(tactic| (refine g_start (σ' := ?sgm) ?hstart ?_; (case hstart => (simp only [start_eS, start_eN, start_e0]; exact rfl))))
/-- one step of a reading -/
local macro_rules | `(tactic| walk_at "g1") => `(tactic| first
  | fail)
local macro_rules | `(tactic| walk_at "go") => `(tactic| repeat (walk_at "g1"))
/-- if c: x = an int, joined -/
local macro_rules | `(tactic| walk_at "when") => `(tactic| (refine g_whenI (i0 := ?wj) (i1 := ?wi) ?wo ?wh ?_; (case wo => exact rfl); (case wh => (intro hw Q' hq; walk_at "go"; exact hq))))
/-- a heap that has only grown -/
local macro_rules | `(tactic| walk_at "same") => `(tactic| repeat (first | exact Same.refl _ | assumption | refine L2.Same.new ?_ (by assumption)))
/-- what stands at a place of a heap that has only grown -/
local macro_rules | `(tactic| walk_at "get") => `(tactic| repeat (first | exact upd_same | assumption | refine upd_get (by assumption) ?_))
/-! ### what has arrived -/
abbrev Mp : Type := List (K3 × List Nat)
def encK (k : K3) : List L2.Key := [.inl (k.1 : Nat), .inl (k.2.1 : Nat), .inl (k.2.2 : Nat)]
def encM (m : Mp) : List (List L2.Key × V) := m.map fun e => (encK e.1, V.str (tx e.2))
theorem encK_inj {a b : K3} : encK a = encK b ↔ a = b := by
  constructor
  · intro h
    obtain ⟨a1, a2, a3⟩ := a
    obtain ⟨b1, b2, b3⟩ := b
    unfold encK at h
    injection h with h1 h
    injection h with h2 h
    injection h with h3 h
    injection h1 with h1
    injection h2 with h2
    injection h3 with h3
    have h1 : (a1 : Int) = b1 := h1
    have h2 : (a2 : Int) = b2 := h2
    have h3 : (a3 : Int) = b3 := h3
    congr 1
    · omega
    · congr 1 <;> omega
  · intro h
    rw [h]
theorem keyO_enc (k : K3) : keyO k = .tup ((encK k).map kV) := rfl
def getO (m : Mp) (k : K3) : Option (List Nat) := (m.find? fun e => decide (e.1 = k)).map (·.2)
def getM (m : Mp) (k : K3) : List Nat := (getO m k).getD []
def putM (m : Mp) (k : K3) (l : List Nat) : Mp := if (m.any fun e => decide (e.1 = k)) = true then m.map (fun e => if e.1 = k then (e.1, l) else e) else m ++ [(k, l)]
theorem dec_enc (a b : K3) : decide (encK a = encK b) = decide (a = b) := by
  rw [decide_eq_decide]
  exact encK_inj
theorem valV_enc (m : Mp) (k : K3) : valV (encM m) (encK k) = (getO m k).map fun l => V.str (tx l) := by
  unfold valV encM getO
  induction m with
  | nil => rfl
  | cons e m ih =>
    rw [List.map_cons, List.find?_cons, List.find?_cons]
    have e1 : decide (((encK e.1, V.str (tx e.2)) : List L2.Key × V).1 = encK k) = decide (e.1 = k) := dec_enc _ _
    rw [e1]
    cases h : decide (e.1 = k) with
    | true => rfl
    | false => exact ih
theorem any_enc (m : Mp) (k : K3) : ((encM m).any fun kv => decide (kv.1 = encK k)) = m.any fun e => decide (e.1 = k) := by
  unfold encM
  rw [List.any_map]
  congr 1
  funext e
  exact dec_enc _ _
theorem putK_enc (m : Mp) (k : K3) (l : List Nat) : putK (encM m) (encK k) (.str (tx l)) = encM (putM m k l) := by
  unfold putK putM
  rw [any_enc]
  split
  · unfold encM
    rw [List.map_map, List.map_map]
    refine List.map_congr_left fun e _ => ?_
    show (if encK e.1 = encK k then (encK e.1, V.str (tx l)) else (encK e.1, V.str (tx e.2))) = (encK (if e.1 = k then (e.1, l) else e).1, V.str (tx (if e.1 = k then (e.1, l) else e).2))
    by_cases h : e.1 = k
    · rw [if_pos h, if_pos (encK_inj.mpr h)]
    · rw [if_neg h, if_neg (fun q => h (encK_inj.mp q))]
  · unfold encM
    rw [List.map_append]
    rfl
theorem getD_enc (m : Mp) (k : K3) : (valV (encM m) (encK k)).getD (.str (tx [])) = .str (tx (getM m k)) := by
  rw [valV_enc]
  unfold getM
  cases getO m k <;> rfl
theorem encM_len (m : Mp) : (encM m).length = m.length := by unfold encM; rw [List.length_map]
def arF (fr t : Addr) : List (Str × V) := [("frame", .ref fr), ("_texts", .ref t)]
def ArO (CA : Addr) (H : Hp) (a fr t : Addr) : Prop := ∃ dx, H a = some (.ins CA dx (arF fr t))
theorem ArO.up {CA : Addr} {H H' : Hp} {a fr t : Addr} (h : ArO CA H a fr t) (S : Same H H') : ArO CA H' a fr t := by
  obtain ⟨dx, e⟩ := h
  exact ⟨dx, S _ _ e⟩
theorem ArO.putB {CA : Addr} {H H' : Hp} {a fr t b : Addr} {kvs : List (List L2.Key × V)} (h : ArO CA H a fr t) (ht : H b = some (.dT kvs)) (S : SameB b H H') : ArO CA H' a fr t := by
  obtain ⟨dx, e⟩ := h
  refine ⟨dx, S _ _ (fun q => ?_) e⟩
  rw [q, ht] at e
  cases e
structure ArAt (CF CA : Addr) (H : Hp) (a fr t : Addr) (f : Fd) (m : Mp) : Prop where
  o : ArO CA H a fr t
  f : FrAt CF H fr f
  t : H t = some (.dT (encM m))
theorem ArAt.up {CF CA : Addr} {H H' : Hp} {a fr t : Addr} {f : Fd} {m : Mp} (h : ArAt CF CA H a fr t f m) (S : Same H H') : ArAt CF CA H' a fr t f m := ⟨h.o.up S, h.f.up S, S _ _ h.t⟩
/-- the dict alone has turned -/
theorem ArAt.put {CF CA : Addr} {H H' : Hp} {a fr t : Addr} {f : Fd} {m m' : Mp} (h : ArAt CF CA H a fr t f m) (S : SameB t H H') (e : H' t = some (.dT (encM m'))) : ArAt CF CA H' a fr t f m' := by
  obtain ⟨⟨dx, h1⟩, ⟨dx2, h2⟩, h3⟩ := h
  refine ⟨⟨dx, S _ _ (fun q => ?_) h1⟩, ⟨dx2, S _ _ (fun q => ?_) h2⟩, e⟩
  · rw [q, h3] at h1
    cases h1
  · rw [q, h3] at h2
    cases h2
theorem KyV.put {H H' : Hp} {t : Addr} {v : V} {k : K3} {m : Mp} (h : KyV H v k) (ht : H t = some (.dT (encM m))) (S : SameB t H H') : KyV H' v k := by
  obtain ⟨r, e, h⟩ := h
  refine ⟨r, e, S _ _ (fun q => ?_) h⟩
  rw [q, ht] at h
  cases h
/-! ### pictures -/
abbrev Pv : Type := List (List Nat)
def intsO (l : List Nat) : HO := .lst (l.map fun (n : Nat) => V.int n)
def RowV (H : Hp) (v : V) (row : List Nat) : Prop := ∃ b, v = .ref b ∧ H b = some (intsO row)
theorem RowV.up {H H' : Hp} {v : V} {row : List Nat} (h : RowV H v row) (S : Same H H') : RowV H' v row := by
  obtain ⟨r, e, h⟩ := h
  exact ⟨r, e, S _ _ h⟩
def RowsAt (H : Hp) (r : Addr) (v : Pv) : Prop := ∃ rs, H r = some (.lst rs) ∧ Paired (RowV H) rs v
theorem RowsAt.up {H H' : Hp} {r : Addr} {v : Pv} (h : RowsAt H r v) (S : Same H H') : RowsAt H' r v := by
  obtain ⟨rs, e, h⟩ := h
  exact ⟨rs, S _ _ e, h.mono fun _ _ h => h.up S⟩
structure VOk (f : Fd) (v : Pv) : Prop where
  c : v.length = f.c
  r : ∀ row ∈ v, row.length = f.w * f.h ∧ ∀ x ∈ row, x < 2 ^ f.d
def piF (f : Fd) (r : Addr) : List (Str × V) := [("width", .int f.w), ("height", .int f.h), ("depth", .int f.d), ("channels", .int f.c), ("_rows", .ref r)]
def PiO (CP : Addr) (H : Hp) (a : Addr) (f : Fd) (r : Addr) : Prop := ∃ dx, H a = some (.ins CP dx (piF f r))
theorem PiO.up {CP : Addr} {H H' : Hp} {a r : Addr} {f : Fd} (h : PiO CP H a f r) (S : Same H H') : PiO CP H' a f r := by
  obtain ⟨dx, e⟩ := h
  exact ⟨dx, S _ _ e⟩
def PiAt (CP : Addr) (H : Hp) (a : Addr) (f : Fd) (v : Pv) : Prop := ∃ r, PiO CP H a f r ∧ RowsAt H r v
theorem PiAt.up {CP : Addr} {H H' : Hp} {a : Addr} {f : Fd} {v : Pv} (h : PiAt CP H a f v) (S : Same H H') : PiAt CP H' a f v := by
  obtain ⟨r, h1, h2⟩ := h
  exact ⟨r, h1.up S, h2.up S⟩
theorem PiAt.put {CP : Addr} {H H' : Hp} {a t : Addr} {f : Fd} {v : Pv} {m : Mp} (h : PiAt CP H a f v) (ht : H t = some (.dT (encM m))) (S : SameB t H H') : PiAt CP H' a f v := by
  have n : ∀ {b : Addr} {o : HO}, H b = some o → (∀ m, o ≠ .dT m) → b ≠ t := fun e hn q => by
    rw [q, ht] at e
    exact hn _ (Option.some.inj e).symm
  obtain ⟨r, ⟨dx, h1⟩, rs, h2, h3⟩ := h
  refine ⟨r, ⟨dx, S _ _ (n h1 (fun _ q => by cases q)) h1⟩, rs, S _ _ (n h2 (fun _ q => by cases q)) h2, h3.mono fun x y hx => ?_⟩
  obtain ⟨b, e, hb⟩ := hx
  exact ⟨b, e, S _ _ (n hb (fun _ q => by cases q)) hb⟩
theorem FrAt.put {CF : Addr} {H H' : Hp} {a t : Addr} {f : Fd} {m : Mp} (h : FrAt CF H a f) (ht : H t = some (.dT (encM m))) (S : SameB t H H') : FrAt CF H' a f := by
  obtain ⟨dx, e⟩ := h
  refine ⟨dx, S _ _ (fun q => ?_) e⟩
  rw [q, ht] at e
  cases e
theorem KsV.put {H H' : Hp} {t : Addr} {vs : List V} {ks : List K3} {m : Mp} (h : KsV H vs ks) (ht : H t = some (.dT (encM m))) (S : SameB t H H') : KsV H' vs ks := h.mono fun _ _ h => h.put ht S
section
variable {K : PySem.W.Frag} {mg : Str → Option Value} {CF CA CP : Addr} {H : Hp} {a fr t r : Addr} {f : Fd} {Q : VK}
theorem g_arf (T : Tx K mg CF CA CP) (h : ArO CA H a fr t) (q : Q (.ref fr) H) : FldC K "frame" (.ref a) H Q := by
  obtain ⟨dx, e⟩ := h
  exact ⟨a, CA, dx, arF fr t, _, rfl, e, T.cA.cl, T.cA.na _ (by decide +kernel), rfl, q⟩
theorem g_art (T : Tx K mg CF CA CP) (h : ArO CA H a fr t) (q : Q (.ref t) H) : FldC K "_texts" (.ref a) H Q := by
  obtain ⟨dx, e⟩ := h
  exact ⟨a, CA, dx, arF fr t, _, rfl, e, T.cA.cl, T.cA.na _ (by decide +kernel), rfl, q⟩
theorem g_piw (T : Tx K mg CF CA CP) (h : PiO CP H a f r) (q : Q (.int f.w) H) : FldC K "width" (.ref a) H Q := by
  obtain ⟨dx, e⟩ := h
  exact ⟨a, CP, dx, piF f r, _, rfl, e, T.cP.cl, T.cP.na _ (by decide +kernel), rfl, q⟩
theorem g_pih (T : Tx K mg CF CA CP) (h : PiO CP H a f r) (q : Q (.int f.h) H) : FldC K "height" (.ref a) H Q := by
  obtain ⟨dx, e⟩ := h
  exact ⟨a, CP, dx, piF f r, _, rfl, e, T.cP.cl, T.cP.na _ (by decide +kernel), rfl, q⟩
theorem g_pid (T : Tx K mg CF CA CP) (h : PiO CP H a f r) (q : Q (.int f.d) H) : FldC K "depth" (.ref a) H Q := by
  obtain ⟨dx, e⟩ := h
  exact ⟨a, CP, dx, piF f r, _, rfl, e, T.cP.cl, T.cP.na _ (by decide +kernel), rfl, q⟩
theorem g_pic (T : Tx K mg CF CA CP) (h : PiO CP H a f r) (q : Q (.int f.c) H) : FldC K "channels" (.ref a) H Q := by
  obtain ⟨dx, e⟩ := h
  exact ⟨a, CP, dx, piF f r, _, rfl, e, T.cP.cl, T.cP.na _ (by decide +kernel), rfl, q⟩
theorem g_pir (T : Tx K mg CF CA CP) (h : PiO CP H a f r) (q : Q (.ref r) H) : FldC K "_rows" (.ref a) H Q := by
  obtain ⟨dx, e⟩ := h
  exact ⟨a, CP, dx, piF f r, _, rfl, e, T.cP.cl, T.cP.na _ (by decide +kernel), rfl, q⟩
theorem g_meA {m : Str} {sp : Sp} {σ : L2.St} {E : XK} {ta : TA} (h : ArO CA H a fr t) (hl : (arF fr t).lookup m = none) (q : ta σ H fun vs H2 => sp (.ref a :: (vs ++ [])) H2 Q E) : MetC CA m ta sp E σ Q (.ref a) H := by
  obtain ⟨dx, e⟩ := h
  exact ⟨a, dx, arF fr t, rfl, e, hl, q⟩
theorem g_meP {m : Str} {sp : Sp} {σ : L2.St} {E : XK} {ta : TA} (h : PiO CP H a f r) (hl : (piF f r).lookup m = none) (q : ta σ H fun vs H2 => sp (.ref a :: (vs ++ [])) H2 Q E) : MetC CP m ta sp E σ Q (.ref a) H := by
  obtain ⟨dx, e⟩ := h
  exact ⟨a, dx, piF f r, rfl, e, hl, q⟩
theorem g_dget2 {σ : L2.St} {td ty tz : TE} (q : td σ H fun x H1 => ∃ a, x = .ref a ∧ IsD H1 a ∧ ty σ H1 fun y H2 => tz σ H2 fun z H3 => ∃ o, DGet H3 a y o ∧ Q (o.getD z) H3) : tDGet2 td ty tz σ H Q := q
theorem g_dput {σ : L2.St} {D : Ends} {td ty tv : TE} (q : tv σ H fun v H1 => td σ H1 fun x H2 => ty σ H2 fun y H3 => ∃ a H4, x = .ref a ∧ DPut H3 a y v H4 ∧ D.nx σ H4) : sDPut td ty tv D σ H := q
theorem g_lockE {σ : L2.St} {te : TE} (q : ∃ d u, H d = some u ∧ Mut (some u) ∧ ∀ od, te σ (upd H d (.frz od u)) fun v H' => H' d = some (.frz od u) ∧ Q v (upd H' d u)) : tLockE te σ H Q := q
theorem g_valsT {σ : L2.St} {td : TE} {R : It → Hp → Prop} (q : td σ H fun x H1 => ∃ d o kvs, x = .ref d ∧ H1 d = some (.frz o (.dT kvs)) ∧ R (Itdt d o kvs) H1) : iValsT td σ H R := q
theorem itv_dt (d : Addr) (o : Obj) (m : Mp) : ItV (Itdt d o (encM m)) m.length (fun i => .str (tx ((m.getD i ((0, 0, 0), [])).2))) fun H => H d = some (.frz o (.dT (encM m))) :=
  ⟨fun i H h g => ⟨g, by rw [encM_len]; exact h⟩, fun H g => ⟨g, by rw [encM_len]; exact Nat.le_refl _⟩, fun i H x H' hi _ h => by
    obtain ⟨e, k, h⟩ := h
    refine ⟨e, ?_⟩
    unfold encM at h
    rw [List.getElem?_map, List.getElem?_eq_getElem hi] at h
    rw [List.getD_eq_getElem?_getD, List.getElem?_eq_getElem hi]
    injection h with h
    injection h with _ h
    exact h.symm⟩
end

end PP
namespace PP
open PySem PySem.Spec PyProof.Rows L2
/-- a name's new value, in a state that is written out -/
local macro_rules | `(tactic| walk_at "set") => `(tactic| (simp only [List.set_cons_succ, List.set_cons_zero]; exact rfl))
local macro_rules | `(tactic| walk_at "start") => `(tactic| (refine g_start (σ' := ?sgm) ?hstart ?_; (case hstart => (simp only [start_eS, start_eN, start_e0]; exact rfl))))
/-- one step of a reading -/
local macro_rules | `(tactic| walk_at "g1") => `(tactic| first
  | ((with_reducible refine g_var (v := ?vv) ?hvv ?_); (case hvv => exact rfl))
  | ((with_reducible refine g_nxS (σ' := ?sgm) ?hset ?_); (case hset => walk_at "set"))
  | ((with_reducible refine g_gnameS (σ' := ?sgm) ?hset ?_); (case hset => walk_at "set"))
  | with_reducible first
    | refine g_c ?_
    | refine g_op ?_
    | refine g_I0 ?_
    | refine g_tst ?_
    | refine g_blc ?_
    | refine g_seq ?_
    | refine g_set ?_
    | refine g_ret ?_
    | refine g_if ?_
    | refine g_and ?_
    | refine g_not ?_
    | refine g_B ?_
    | refine g_cons ?_
    | refine g_nil ?_
    | refine g_call ?_
    | refine g_cb ?_
    | refine g_fldC ?_
    | refine g_met ?_
    | refine g_meA (by assumption) rfl ?_
    | refine g_arf (by assumption) (by assumption) ?_
    | refine g_art (by assumption) (by assumption) ?_
    | refine g_dget2 ?_
    | refine g_dput ?_
    | refine g_sfld ?_
    | refine g_drop ?_
    | refine g_nx ?_
    | refine g_rt ?_
    | refine g_nxt ?_
    | refine g_asg ?_
    | refine g_chain ?_
    | refine g_gname ?_
    | refine g_gcons ?_
    | refine g_gnil ?_
    | refine g_m1 ?_
    | refine g_m1c ?_
    | refine g_slS ?_
    | refine g_noP ?_
    | refine g_part ?_
    | refine g_yes ?_
    | refine g_true ?_
    | refine g_false ?_
    | refine g_nT ?_
    | refine g_nF ?_
    | refine g_dT (by omega) ?_
    | refine g_dF (by omega) ?_
    | refine g_ndF (by omega) ?_
  | ((with_reducible refine ⟨tx _, rfl, sz_tx ?hzt, ?_⟩); (case hzt => first | omega | (simp only [List.length_nil, List.length_cons, List.length_append]; omega)); rw [tx_len])
  | (with_reducible refine ⟨tx _, tx _, rfl, rfl, sz_cat ?hzc, ?_⟩; (case hzc => first | omega | (simp only [List.length_append, List.length_cons, List.length_nil, List.length_replicate]; omega)); rw [tx_app])
  | (with_reducible refine ⟨tx _, tx _, rfl, rfl, ?_⟩; rw [starts_tx])
  | with_reducible refine g_exI ?_
  | with_reducible refine g_exR ?_
  | ((with_reducible refine g_I ?hcc ?_); (case hcc => first | (intro hz; omega) | omega | exact Or.inl (by omega) | exact Or.inr (by omega) | exact ⟨by omega, by omega, by omega⟩ | exact ⟨by omega, by omega⟩)))
local macro_rules | `(tactic| walk_at "go") => `(tactic| repeat (walk_at "g1"))
/-- if c: x = an int, joined -/
local macro_rules | `(tactic| walk_at "when") => `(tactic| (refine g_whenI (i0 := ?wj) (i1 := ?wi) ?wo ?wh ?_; (case wo => exact rfl); (case wh => (intro hw Q' hq; walk_at "go"; exact hq))))
/-- a heap that has only grown -/
local macro_rules | `(tactic| walk_at "same") => `(tactic| repeat (first | exact Same.refl _ | assumption | refine L2.Same.new ?_ (by assumption)))
/-- what stands at a place of a heap that has only grown -/
local macro_rules | `(tactic| walk_at "get") => `(tactic| repeat (first | exact upd_same | assumption | refine upd_get (by assumption) ?_))
def sp_Arrived_init (CF CA : Addr) : Sp := fun vs H Q _ => ∃ (a dx fr : Addr), vs = [.ref a, .ref fr] ∧ H a = some (.ins CA dx []) ∧ ∀ t H', SameB a H H' → H t = none → H' a = some (.ins CA dx (arF fr t)) → H' t = some (.dT []) → Q .non H'
def sp_Arrived_digits (CF CA : Addr) : Sp := fun vs H Q _ => ∃ (a fr t : Addr) (f : Fd) (m : Mp) (k : K3) (v : V), vs = [.ref a, v] ∧ ArAt CF CA H a fr t f m ∧ f.Ok ∧ KyV H v k ∧ okKey f k ∧ Q (.str (tx (getM m k))) H
def sp_Arrived_accept (CF CA : Addr) : Sp := fun vs H Q _ => ∃ (a fr t : Addr) (f : Fd) (m : Mp) (k : K3) (v : V) (bits p : List Nat), vs = [.ref a, v, .int ((getM m k).length : Nat), .str (tx bits)] ∧ ArAt CF CA H a fr t f m ∧ f.Ok ∧ KyV H v k ∧ okKey f k ∧ m.length ≤ 1000 ∧
  DomC (f.tw k.2.1) (f.tm k) (getM m k ++ bits) ∧ findM (f.tw k.2.1) (f.tm k) (getM m k ++ bits) = some p ∧ ∀ H', SameB t H H' → H' t = some (.dT (encM (if bits = [] then m else putM m k (getM m k ++ bits)))) → Q (.int (bits.length : Nat)) H'
def cntM (m : Mp) : Nat := (m.map fun e => e.2.length).sum
def sp_Arrived_digit_count (CF CA : Addr) : Sp := fun vs H Q _ => ∃ (a fr t : Addr) (f : Fd) (m : Mp), vs = [.ref a] ∧ ArAt CF CA H a fr t f m ∧ m.length ≤ 1000 ∧ (∀ e ∈ m, e.2.length ≤ 1000) ∧ ∀ H', Same H H' → Q (.int (cntM m : Nat)) H'
def sp_known_text (CF CA : Addr) : Sp := fun vs H Q _ => ∃ (a fr t : Addr) (f : Fd) (m : Mp) (k : K3) (v : V) (p : List Nat), vs = [.ref a, v] ∧ ArAt CF CA H a fr t f m ∧ f.Ok ∧ KyV H v k ∧ okKey f k ∧
  DomC (f.tw k.2.1) (f.tm k) (getM m k) ∧ findM (f.tw k.2.1) (f.tm k) (getM m k) = some p ∧ p.length ≤ f.tm k ∧ ∀ H', Same H H' → Q (.str (tx (p ++ List.replicate (f.tm k - p.length) 63))) H'
section
variable {P : Program} {wd : World} {K : PySem.W.Frag} {mg : Str → Option Value} {base : Heap} {CF CA CP : Addr}

theorem sc_Arrived_init : FnScope ["self", "frame"] ["self", "frame"] (defScope s_Arrived_init) := ⟨rfl, rfl, rfl, by decide +kernel, rfl, by decide +kernel, by decide +kernel⟩
theorem mcal_Arrived_init (T : Tx K mg CF CA CP) : MCal P wd K mg base 1 CA "__init__" ["self", "frame"] (sp_Arrived_init CF CA) := by
  obtain ⟨f0, M0⟩ := T.mA 0 d_Arrived_init rfl
  refine mcal_of M0 sc_Arrived_init (fun _ _ _ _ _ _ us hl => match us, hl with | [_, _], _ => rfl) (fun vs H Q E h => ?_) (fun f cdv A outer s H vs Q E hr h => ?_)
  · obtain ⟨a, dx, fr, rfl, _⟩ := h
    rfl
  · obtain ⟨a, dx, fr, rfl, ha, k⟩ := h
    refine ⟨_, (pss_cons (ps_fld (pv 0) (pv 1) rfl)
      (pss_one (ps_fld (pv 0) pe_dnewT rfl))), ?_⟩
    walk_at "start"
    walk_at "go"
    refine g_sfc T.cA ha (by decide +kernel) (by repeat (first | decide | refine lt_putF ?_)) ?_
    walk_at "go"
    intro t ht
    walk_at "go"
    have nt : t ≠ a := fun e => by rw [e, upd_same] at ht; cases ht
    refine g_sfc T.cA (dx := dx) (fs := [("frame", .ref fr)]) (upd_get ht upd_same) (by decide +kernel) (show 1 < 1000 by decide) ?_
    walk_at "go"
    refine k t _ (fun b o hb e => ?_) (by rw [upd_ne nt] at ht; exact ht) upd_same ?_
    · rw [upd_ne hb]
      have n2 : b ≠ t := fun q => by rw [← q, upd_ne hb] at ht; rw [e] at ht; cases ht
      rw [upd_ne n2, upd_ne hb]
      exact e
    · rw [upd_ne nt]
      exact upd_same
theorem sc_Arrived_digits : FnScope ["self", "key"] ["self", "key"] (defScope s_Arrived_digits) := ⟨rfl, rfl, rfl, by decide +kernel, rfl, by decide +kernel, by decide +kernel⟩
theorem mcal_Arrived_digits (T : Tx K mg CF CA CP) : MCal P wd K mg base 4 CA "digits" ["self", "key"] (sp_Arrived_digits CF CA) := by
  obtain ⟨f0, M0⟩ := T.mA 1 d_Arrived_digits rfl
  refine mcal_of M0 sc_Arrived_digits (fun _ _ _ _ _ _ us hl => match us, hl with | [_, _], _ => rfl) (fun vs H Q E h => ?_) (fun f cdv A outer s H vs Q E hr h => ?_)
  · obtain ⟨a, fr, t, f, m, ky, v, rfl, _⟩ := h
    rfl
  · obtain ⟨a, fr, t, f, m, ky, v, rfl, hA, ok, hk, hok, k⟩ := h
    have hu := hu_of hr
    refine ⟨_, (pss_cons (ps_expr (pe_cal (cal_check_key T) hr (pa_cons (pe_fldK (K := K) (pv 0) rfl) (pa_cons (pv 1) pa_nil))))
      (pss_one (ps_ret (pe_dget2 hu (pe_fldK (K := K) (pv 0) rfl) (pv 1) (pe_tx txe) ⟨rfl, rfl, rfl, rfl⟩)))), ?_⟩
    walk_at "start"
    have hAo := hA.o; have hF := hA.f; have hT := hA.t
    walk_at "go"
    refine ⟨f, fr, ky, v, rfl, hF, ok, hk, hok, ?_⟩
    obtain ⟨r, e, hr2⟩ := hk
    subst e
    walk_at "go"
    refine ⟨.inr ⟨_, .inl hT⟩, ?_⟩
    walk_at "go"
    refine ⟨_, DGet.t (k := encK ky) hT hr2, ?_⟩
    rw [getD_enc]
    exact k
theorem startsB {a b : List Nat} {Q : VK} {H : Hp} (q : Q (.bl (b.isPrefixOf a)) H) : ∃ x y, V.str (tx a) = .str x ∧ [V.str (tx b)] = [.str y] ∧ Q (.bl (Txt.startswith x y)) H := g_starts q
theorem sc_Arrived_accept : FnScope ["self", "key", "start", "bits", "there", "rest", "longer", "width", "height"] ["self", "key", "start", "bits"] (defScope s_Arrived_accept) := ⟨rfl, rfl, rfl, by decide +kernel, rfl, by decide +kernel, by decide +kernel⟩
theorem mcal_Arrived_accept (T : Tx K mg CF CA CP) : MCal P wd K mg base 7 CA "accept" ["self", "key", "start", "bits"] (sp_Arrived_accept CF CA) := by
  obtain ⟨f0, M0⟩ := T.mA 2 d_Arrived_accept rfl
  refine mcal_of M0 sc_Arrived_accept (fun _ _ _ _ _ _ us hl => match us, hl with | [_, _, _, _], _ => rfl) (fun vs H Q E h => ?_) (fun f cdv A outer s H vs Q E hr h => ?_)
  · obtain ⟨a, fr, t, f, m, ky, v, bits, p, rfl, _⟩ := h
    rfl
  · obtain ⟨a, fr, t, f, m, ky, v, bits, p, rfl, hA, ok, hk, hok, hml, hc, hp, k⟩ := h
    have hu := hu_of hr
    refine ⟨_, (pss_cons (ps_set (i := 4) sc_Arrived_accept.nd rfl (by first | exact Or.inl rfl | exact Or.inr rfl) (pe_mcal T.cA.cl (mcal_Arrived_digits T) hr (pv 0) (pa_cons (pv 1) pa_nil)))
      (pss_cons (ps_if (pt_not (pt_chain op_le op_le pe_int (pv 2) (pe_gi (T.nums 41 _ _ rfl))))
      pss_never
      pss_nil)
      (pss_cons (ps_if (pt_cmpR op_gt (pe_callB call_len_str (by rfl) (T.nof _ (fre_len)) PySem.boot_len (pa_cons (pv 3) pa_nil)) (pe_gi (T.nums 42 _ _ rfl)) (nomark _))
      pss_never
      pss_nil)
      (pss_cons (ps_if (pt_cmpR op_lt (pe_callB call_len_str (by rfl) (T.nof _ (fre_len)) PySem.boot_len (pa_cons (pv 4) pa_nil)) (pv 2) (nomark _))
      pss_never
      pss_nil)
      (pss_cons (ps_set (i := 5) sc_Arrived_accept.nd rfl (by first | exact Or.inl rfl | exact Or.inr rfl) (pe_slice sl_str (pv 4) (po_some (pv 2)) po_none))
      (pss_cons (ps_if (PW.pt (pw_and (pt_not (pt_val (pe_m1 PySem.F.slot_str_startswith PySem.F.type_str_startswith mt_startswith (pv 5) (pv 3)))) (pw_and1 (pt_not (pt_val (pe_m1 PySem.F.slot_str_startswith PySem.F.type_str_startswith mt_startswith (pv 3) (pv 5)))))))
      pss_never
      pss_nil)
      (pss_cons (ps_if (pt_cmpR op_le (pe_callB call_len_str (by rfl) (T.nof _ (fre_len)) PySem.boot_len (pa_cons (pv 3) pa_nil)) (pe_callB call_len_str (by rfl) (T.nof _ (fre_len)) PySem.boot_len (pa_cons (pv 5) pa_nil)) (nomark _))
      (pss_one (ps_ret pe_int))
      pss_nil)
      (pss_cons (ps_set (i := 6) sc_Arrived_accept.nd rfl (by first | exact Or.inl rfl | exact Or.inr rfl) (pe_op op_add_str (pe_slice sl_str (pv 4) po_none (po_some (pv 2))) (pv 3)))
      (pss_cons (ps_asg (pe_cal (cal_tile_size T) hr (pa_cons (pe_fldK (K := K) (pv 0) rfl) (pa_cons (pe_ix (ix_tupK (K := K)) (pv 1) pe_int (fun _ _ => rfl)) pa_nil))) (pg_tupK (K := K) (n := 2) (by rfl) (pgs_cons (pg_name (i := 7) sc_Arrived_accept.nd rfl (by first | exact Or.inl rfl | exact Or.inr rfl)) (pgs_cons (pg_name (i := 8) sc_Arrived_accept.nd rfl (by first | exact Or.inl rfl | exact Or.inr rfl)) pgs_nil))))
      (pss_cons (ps_if (pt_cmpR op_isN (pe_cal (cal_find_prefix T) hr (pa_cons (pv 7) (pa_cons (pe_op op_mul (pv 7) (pv 8)) (pa_cons (pv 6) pa_nil)))) pe_non (nomark _))
      pss_never
      pss_nil)
      (pss_cons (ps_dput hu (pe_fldK (K := K) (pv 0) rfl) (pv 1) (pv 6) rfl)
      (pss_one (ps_ret (pe_op op_sub (pe_callB call_len_str (by rfl) (T.nof _ (fre_len)) PySem.boot_len (pa_cons (pv 6) pa_nil)) (pe_callB call_len_str (by rfl) (T.nof _ (fre_len)) PySem.boot_len (pa_cons (pv 4) pa_nil)))))))))))))))), ?_⟩
    walk_at "start"
    have hAo := hA.o; have hF := hA.f; have hT := hA.t
    obtain ⟨c1, c2, c3⟩ := hc.c
    have c4 := c1
    rw [List.length_append] at c4
    walk_at "go"
    refine ⟨a, fr, t, f, m, ky, v, rfl, hA, ok, hk, hok, ?_⟩
    walk_at "go"
    refine g_from (by omega) ?_
    rw [List.drop_length]
    walk_at "go"
    rcases bits with _ | ⟨x, r⟩
    · show if (!true) = true then _ else _
      walk_at "go"
      exact k H .refl (by rw [if_pos rfl]; exact hT)
    · show if (!false) = true then _ else _
      walk_at "go"
      show if (!true) = true then _ else _
      walk_at "go"
      refine g_dF (by simp only [List.length_cons, List.length_nil]; omega) ?_
      obtain ⟨rk, e, hr2⟩ := hk
      subst e
      have htl := ok.tile hok.2.1
      walk_at "go"
      refine g_to (by omega) ?_
      rw [List.take_length]
      walk_at "go"
      refine g_ixT 1 (SqT.of hr2) rfl rfl ?_
      walk_at "go"
      refine ⟨f, fr, ky.2.1, rfl, hF, ok, hok.2.1, fun T1 H1 S1 hT1 => ?_⟩
      refine g_gtup (SqT.of hT1) rfl ?_
      walk_at "go"
      refine ⟨f.tw ky.2.1, f.tm ky, getM m ky ++ x :: r, rfl, hc, fun H2 S2 => ?_⟩
      rw [hp]
      walk_at "go"
      refine ⟨rfl, ?_⟩
      have e : decide (optV (some p) = V.non) = false := decide_eq_false (fun h => by cases h)
      rw [e]
      have S := S1.trans S2
      have hAo := hAo.up S
      walk_at "go"
      refine ⟨t, _, rfl, DPut.t (k := encK ky) (S _ _ hT) (S _ _ hr2) (lt_sz (by rw [encM_len]; omega)), ?_⟩
      rw [putK_enc]
      walk_at "go"
      have e2 : (((getM m ky ++ x :: r).length : Nat) : Int) - ((getM m ky).length : Nat) = (((x :: r).length : Nat) : Int) := by
        rw [List.length_append]
        omega
      rw [e2]
      refine k _ (SameB.of S).put ?_
      rw [if_neg (by intro q; cases q)]
      exact upd_same

theorem sc_Arrived_digit_count : FnScope ["self", "digits"] ["self"] (defScope s_Arrived_digit_count) := ⟨rfl, rfl, rfl, by decide +kernel, rfl, by decide +kernel, by decide +kernel⟩
theorem mcal_Arrived_digit_count (T : Tx K mg CF CA CP) : MCal P wd K mg base 1 CA "digit_count" ["self"] (sp_Arrived_digit_count CF CA) := by
  obtain ⟨f0, M0⟩ := T.mA 3 d_Arrived_digit_count rfl
  refine mcal_of M0 sc_Arrived_digit_count (fun _ _ _ _ _ _ us hl => match us, hl with | [_], _ => rfl) (fun vs H Q E h => ?_) (fun f cdv A outer s H vs Q E hr h => ?_)
  · obtain ⟨a, fr, t, f, m, rfl, _⟩ := h
    rfl
  · obtain ⟨a, fr, t, f, m, rfl, hA, hml, hel, k⟩ := h
    refine ⟨_, (pss_one (ps_ret (pe_callB (cr_sum (by rfl)) (by rfl) (T.nof _ (fre_sum)) (by decide +kernel) (pa_cons (pe_lock (pe_lc (own := [("digits", 1)]) rfl sc_Arrived_digit_count.nd (pi_valuesT (pe_fldK (K := K) (pv 0) rfl)) (blkOk_by (N := ["self", "digits"]) (sc := defScope s_Arrived_digit_count) (by decide +kernel)) (fun _ _ _ _ _ => (pg_name (i := 1) sc_Arrived_digit_count.nd rfl (by first | exact Or.inl rfl | exact Or.inr rfl))) (fun _ _ _ _ _ => pts_nil) (fun _ _ _ _ _ => (pe_callB call_len_str (by rfl) (T.nof _ (fre_len)) PySem.boot_len (pa_cons (pv 1) pa_nil))))) pa_nil)))), ?_⟩
    walk_at "start"
    have hAo := hA.o; have hF := hA.f; have hT := hA.t
    walk_at "go"
    refine g_lockE ⟨t, _, hT, True.intro, fun od => ?_⟩
    have SB : SameB t H (upd H t (.frz od (.dT (encM m)))) := SameB.refl.put
    have hAo := hAo.putB hT SB
    refine g_lc ?_
    refine g_valsT ?_
    walk_at "go"
    refine ⟨t, od, _, rfl, upd_same, ?_⟩
    refine g_lcV (fun i acc _ => acc = ((m.map fun e => V.int (e.2.length : Nat)).take i)) (by omega) (itv_dt t od m) (fun H2 S => S _ _ upd_same) rfl (fun D i acc H2 Nx hi hD hH S hI hN KK hK R hR => ?_) (fun D acc H2 hD hH S hI => ?_)
    · have hl := hel _ (List.getElem_mem hi)
      have eg : (m.getD i ((0, 0, 0), [])) = m[i] := by
        rw [List.getD_eq_getElem?_getD, List.getElem?_eq_getElem hi]
        rfl
      rw [eg]
      walk_at "go"
      refine hR _ _ ⟨rfl, ?_⟩
      walk_at "go"
      refine hK _ _ (Same.refl _) ?_
      rw [hI, List.take_succ_eq_append_getElem (by rw [List.length_map]; exact hi), List.getElem_map]
    · refine ⟨S _ _ upd_same, ?_⟩
      walk_at "go"
      have nD : D ≠ t := fun e => by rw [e, upd_same] at hD; cases hD
      have hL : (upd H2 t (.dT (encM m))) D = some (.lst ((m.map fun e => ((e.2.length : Nat) : Int)).map V.int)) := by
        rw [upd_ne nD, hH, hI, List.take_of_length_le (by rw [List.length_map]; exact Nat.le_refl _), List.map_map]
        rfl
      refine ⟨D, _, rfl, SqL.of hL, ?_⟩
      have es : (m.map fun e => ((e.2.length : Nat) : Int)).sum = ((cntM m : Nat) : Int) := by
        unfold cntM
        clear k hA hml hel hT hAo SB hH hI hL S hD
        induction m with
        | nil => rfl
        | cons e m ih =>
          rw [List.map_cons, List.map_cons, List.sum_cons, List.sum_cons, ih]
          omega
      rw [es]
      refine k _ (fun b o e => ?_)
      by_cases hb : b = t
      · rw [hb, upd_same, ← e, hb, hT]
      · rw [upd_ne hb]
        exact S _ _ (by rw [upd_ne hb]; exact e)
theorem sc_known_text : FnScope ["arrived", "key", "digits", "width", "height"] ["arrived", "key"] (defScope s_known_text) := ⟨rfl, rfl, rfl, by decide +kernel, rfl, by decide +kernel, by decide +kernel⟩
theorem cal_known_text (T : Tx K mg CF CA CP) : Cal P wd K mg base 9 "known_text" ["arrived", "key"] (sp_known_text CF CA) := by
  refine T.cal (d := d_known_text) 44 rfl sc_known_text (fun _ _ _ _ _ _ us hl => match us, hl with | [_, _], _ => rfl) (fun vs H Q E h => ?_) (fun f cdv A outer s H vs Q E hr h => ?_)
  · obtain ⟨a, fr, t, f, m, ky, v, p, rfl, _⟩ := h
    rfl
  · obtain ⟨a, fr, t, f, m, ky, v, p, rfl, hA, ok, hk, hok, hc, hp, hpl, k⟩ := h
    refine ⟨_, (pss_cons (ps_set (i := 2) sc_known_text.nd rfl (by first | exact Or.inl rfl | exact Or.inr rfl) (pe_mcal T.cA.cl (mcal_Arrived_digits T) hr (pv 0) (pa_cons (pv 1) pa_nil)))
      (pss_cons (ps_asg (pe_cal (cal_tile_size T) hr (pa_cons (pe_fldK (K := K) (pv 0) rfl) (pa_cons (pe_ix (ix_tupK (K := K)) (pv 1) pe_int (fun _ _ => rfl)) pa_nil))) (pg_tupK (K := K) (n := 2) (by rfl) (pgs_cons (pg_name (i := 3) sc_known_text.nd rfl (by first | exact Or.inl rfl | exact Or.inr rfl)) (pgs_cons (pg_name (i := 4) sc_known_text.nd rfl (by first | exact Or.inl rfl | exact Or.inr rfl)) pgs_nil))))
      (pss_one (ps_ret (pe_cal (cal_known T) hr (pa_cons (pv 3) (pa_cons (pe_op op_mul (pv 3) (pv 4)) (pa_cons (pv 2) pa_nil)))))))), ?_⟩
    walk_at "start"
    have hAo := hA.o; have hF := hA.f; have hT := hA.t
    walk_at "go"
    refine ⟨a, fr, t, f, m, ky, v, rfl, hA, ok, hk, hok, ?_⟩
    obtain ⟨rk, e, hr2⟩ := hk
    subst e
    have htl := ok.tile hok.2.1
    walk_at "go"
    refine g_ixT 1 (SqT.of hr2) rfl rfl ?_
    walk_at "go"
    refine ⟨f, fr, ky.2.1, rfl, hF, ok, hok.2.1, fun T1 H1 S1 hT1 => ?_⟩
    refine g_gtup (SqT.of hT1) rfl ?_
    walk_at "go"
    exact ⟨f.tw ky.2.1, f.tm ky, getM m ky, p, rfl, hc, hp, hpl, fun H' S => k H' (S1.trans S)⟩
end

end PP
namespace PP
open PySem PySem.Spec PyProof.Rows L2
/-- a name's new value, in a state that is written out -/
local macro_rules | `(tactic| walk_at "set") => `(tactic| (simp only [List.set_cons_succ, List.set_cons_zero]; exact rfl))
local macro_rules | `(tactic| walk_at "start") => `(tactic| (refine g_start (σ' := ?sgm) ?hstart ?_; (case hstart => (simp only [start_eS, start_eN, start_e0]; exact rfl))))
/-- one step of a reading -/
local macro_rules | `(tactic| walk_at "g1") => `(tactic| first
  | fail)
local macro_rules | `(tactic| walk_at "go") => `(tactic| repeat (walk_at "g1"))
/-- if c: x = an int, joined -/
local macro_rules | `(tactic| walk_at "when") => `(tactic| (refine g_whenI (i0 := ?wj) (i1 := ?wi) ?wo ?wh ?_; (case wo => exact rfl); (case wh => (intro hw Q' hq; walk_at "go"; exact hq))))
/-- a heap that has only grown -/
local macro_rules | `(tactic| walk_at "same") => `(tactic| repeat (first | exact Same.refl _ | assumption | refine L2.Same.new ?_ (by assumption)))
/-- what stands at a place of a heap that has only grown -/
local macro_rules | `(tactic| walk_at "get") => `(tactic| repeat (first | exact upd_same | assumption | refine upd_get (by assumption) ?_))
/-! ### grays -/
def grayN (v p : Nat) : Nat := (v / 2 ^ p + v / 2 ^ (p + 1)) % 2
theorem gray_all : ∀ v ∈ List.range 8, ∀ p ∈ List.range 3, Builtin.bitAnd (Builtin.bitXor ((v : Int) / 2 ^ ((p : Int)).toNat) ((v : Int) / 2 ^ ((p : Int) + 1).toNat)) 1 = ((grayN v p : Nat) : Int) := by decide +kernel
theorem xor_all : ∀ a ∈ List.range 2, ∀ b ∈ List.range 2, Builtin.bitXor (a : Int) (b : Int) = (((a + b) % 2 : Nat) : Int) := by decide +kernel
theorem grayN_lt (v p : Nat) : grayN v p < 2 := Nat.mod_lt _ (by decide)
def vAt (v : Pv) (c x : Nat) : Nat := (v.getD c []).getD x 0
def storedN (f : Fd) (v : Pv) (c x p : Nat) : Nat := if f.c = 1 then grayN (vAt v 0 x) p else if c = 0 then grayN (vAt v 1 x) p else (grayN (vAt v (if c = 1 then 0 else 2) x) p + grayN (vAt v 1 x) p) % 2
def bitsM (f : Fd) (v : Pv) (k : K3) : List Nat := (pixsM f k.2.1).map fun x => if decide (storedN f v k.1 x k.2.2 = 0) = true then 48 else 49
def cdM (f : Fd) (v : Pv) (k : K3) : List Nat := codeM (f.tw k.2.1) (bitsM f v k)
theorem pixs_lt {f : Fd} (ok : f.Ok) {i : Nat} (hi : i < f.tls) : ∀ x ∈ pixsM f i, x < f.w * f.h := by
  intro x hx
  unfold pixsM pixRow at hx
  obtain ⟨y, hy, hx⟩ := List.mem_flatMap.mp hx
  obtain ⟨z, hz, e⟩ := List.mem_map.mp hx
  rw [← e]
  exact (ok.tile hi).2.2.2.2 y hy z hz
theorem pixs_len (f : Fd) (i : Nat) : (pixsM f i).length = f.tw i * f.th i := by
  unfold pixsM
  rw [pixsM_len, Nat.mul_comm]
theorem bits_len (f : Fd) (v : Pv) (k : K3) : (bitsM f v k).length = f.tm k := by
  unfold bitsM
  rw [List.length_map, pixs_len]
  rfl
theorem bits_sig (f : Fd) (v : Pv) (k : K3) : ∀ x ∈ bitsM f v k, x = 48 ∨ x = 49 := by
  intro x hx
  unfold bitsM at hx
  obtain ⟨y, _, e⟩ := List.mem_map.mp hx
  rw [← e]
  split
  · exact .inl rfl
  · exact .inr rfl
theorem tm_le {f : Fd} (ok : f.Ok) {k : K3} (hk : okKey f k) : f.tm k ≤ 4 := by
  obtain ⟨_, _, h4, h5, _⟩ := ok.tile hk.2.1
  exact Nat.mul_le_mul h4.2 h5.2
theorem bits_dom {f : Fd} (ok : f.Ok) (v : Pv) {k : K3} (hk : okKey f k) : DomB (f.tw k.2.1) (bitsM f v k) := by
  obtain ⟨_, _, h4, h5, _⟩ := ok.tile hk.2.1
  refine ⟨mem12 h4, mem_allB ?_ (bits_sig f v k)⟩
  rw [bits_len]
  exact tm_le ok hk
theorem VOk.at {f : Fd} {v : Pv} (h : VOk f v) (ok : f.Ok) {c x : Nat} (hc : c < f.c) (hx : x < f.w * f.h) : vAt v c x < 2 ^ f.d ∧ vAt v c x < 8 := by
  have hc' : c < v.length := by rw [h.c]; exact hc
  obtain ⟨h1, h2⟩ := h.r v[c] (List.getElem_mem hc')
  have e : v.getD c [] = v[c] := by rw [List.getD_eq_getElem?_getD, List.getElem?_eq_getElem hc']; rfl
  have hx' : x < v[c].length := by rw [h1]; exact hx
  have e2 : vAt v c x = v[c][x] := by
    unfold vAt
    rw [e, List.getD_eq_getElem?_getD, List.getElem?_eq_getElem hx']
    rfl
  have h3 := h2 _ (List.getElem_mem hx')
  rw [e2]
  refine ⟨h3, Nat.lt_of_lt_of_le h3 ?_⟩
  have := ok.d
  exact Nat.pow_le_pow_right (by decide) this.2
theorem rows_get {H : Hp} : ∀ {rs : List V} {v : Pv}, Paired (RowV H) rs v → ∀ {c : Nat}, c < v.length → ∃ b, rs[c]? = some (.ref b) ∧ H b = some (intsO (v.getD c []))
  | _, _, .nil, c, h => by cases h
  | _, _, .cons h t, 0, _ => by
    obtain ⟨b, e, hb⟩ := h
    exact ⟨b, by rw [e]; rfl, hb⟩
  | _, _, .cons h t, c + 1, hc => by
    obtain ⟨b, e, hb⟩ := rows_get t (Nat.lt_of_succ_lt_succ hc)
    exact ⟨b, e, hb⟩
theorem ints_get {l : List Nat} {x : Nat} (h : x < l.length) : (l.map fun (n : Nat) => V.int n)[x]? = some (.int (l.getD x 0 : Nat)) := by
  rw [List.getElem?_map, List.getElem?_eq_getElem h, List.getD_eq_getElem?_getD, List.getElem?_eq_getElem h]
  rfl
theorem row_len {f : Fd} {v : Pv} (h : VOk f v) {c : Nat} (hc : c < f.c) : (v.getD c []).length = f.w * f.h := by
  have hc' : c < v.length := by rw [h.c]; exact hc
  rw [List.getD_eq_getElem?_getD, List.getElem?_eq_getElem hc']
  exact (h.r _ (List.getElem_mem hc')).1
theorem row_new {D l : Addr} {H : Hp} {acc acc' : List V} {v : Pv} {row : List Nat} (hacc : H D = some (.lst acc')) (hr : H l = none) (h : Paired (RowV (hide D H)) acc v) : Paired (RowV (hide D (upd H l (intsO row)))) (acc ++ [.ref l]) (v ++ [row]) := by
  refine Paired.snoc (h.mono fun _ _ q => q.up (same_new hr).hide) ⟨l, rfl, ?_⟩
  rw [hide_ne (fun e => by rw [e, hacc] at hr; cases hr)]
  exact upd_same
theorem g_andV {σ : L2.St} {H : Hp} {Q : VK} {ta tb : TE} (q : ta σ H fun x H1 => ∃ c, x = .bl c ∧ if c = true then tb σ H1 Q else Q (.bl false) H1) : tAndV ta tb σ H Q := q
theorem g_orV {σ : L2.St} {H : Hp} {Q : VK} {ta tb : TE} (q : ta σ H fun x H1 => ∃ c, x = .bl c ∧ if c = true then Q (.bl true) H1 else tb σ H1 Q) : tOrV ta tb σ H Q := q

end PP
namespace PP
open PySem PySem.Spec PyProof.Rows L2
/-- a name's new value, in a state that is written out -/
local macro_rules | `(tactic| walk_at "set") => `(tactic| (simp only [List.set_cons_succ, List.set_cons_zero]; exact rfl))
local macro_rules | `(tactic| walk_at "start") => `(tactic| (refine g_start (σ' := ?sgm) ?hstart ?_; (case hstart => (simp only [start_eS, start_eN, start_e0]; exact rfl))))
/-- one step of a reading -/
local macro_rules | `(tactic| walk_at "g1") => `(tactic| first
  | ((with_reducible refine g_var (v := ?vv) ?hvv ?_); (case hvv => exact rfl))
  | ((with_reducible refine g_nxS (σ' := ?sgm) ?hset ?_); (case hset => walk_at "set"))
  | ((with_reducible refine g_gnameS (σ' := ?sgm) ?hset ?_); (case hset => walk_at "set"))
  | with_reducible first
    | refine g_c ?_
    | refine g_op ?_
    | refine g_I0 ?_
    | refine g_tst ?_
    | refine g_blc ?_
    | refine g_seq ?_
    | refine g_set ?_
    | refine g_ret ?_
    | refine g_if ?_
    | refine g_or ?_
    | refine g_not ?_
    | refine g_eqI ?_
    | refine g_neI ?_
    | refine g_B ?_
    | refine g_cons ?_
    | refine g_nil ?_
    | refine g_call ?_
    | refine g_fldC ?_
    | refine g_met ?_
    | refine g_meP (by assumption) rfl ?_
    | refine g_piw (by assumption) (by assumption) ?_
    | refine g_pih (by assumption) (by assumption) ?_
    | refine g_pid (by assumption) (by assumption) ?_
    | refine g_pic (by assumption) (by assumption) ?_
    | refine g_pir (by assumption) (by assumption) ?_
    | refine g_andV ?_
    | refine g_frw (by assumption) (by assumption) ?_
    | refine g_frh (by assumption) (by assumption) ?_
    | refine g_frd (by assumption) (by assumption) ?_
    | refine g_frc (by assumption) (by assumption) ?_
    | refine g_ifE ?_
    | refine g_drop ?_
    | refine g_rt ?_
    | refine g_nxt ?_
    | refine g_asg ?_
    | refine g_ilst ?_
    | refine g_gname ?_
    | refine g_gcons ?_
    | refine g_gnil ?_
    | refine g_lc ?_
    | refine g_m1 ?_
    | refine g_m1c ?_
    | refine g_ifC1 ?_
    | refine g_ifCI ?_
    | refine g_yes ?_
    | refine g_true ?_
    | refine g_nF ?_
    | refine g_dT (by omega) ?_
    | refine g_ndF (by omega) ?_
  | with_reducible refine g_exI ?_
  | with_reducible refine g_exR ?_
  | ((with_reducible refine g_I ?hcc ?_); (case hcc => first | (intro hz; omega) | omega | exact Or.inl (by omega) | exact Or.inr (by omega) | exact ⟨by omega, by omega, by omega⟩ | exact ⟨by omega, by omega⟩)))
local macro_rules | `(tactic| walk_at "go") => `(tactic| repeat (walk_at "g1"))
/-- if c: x = an int, joined -/
local macro_rules | `(tactic| walk_at "when") => `(tactic| (refine g_whenI (i0 := ?wj) (i1 := ?wi) ?wo ?wh ?_; (case wo => exact rfl); (case wh => (intro hw Q' hq; walk_at "go"; exact hq))))
/-- a heap that has only grown -/
local macro_rules | `(tactic| walk_at "same") => `(tactic| repeat (first | exact Same.refl _ | assumption | refine L2.Same.new ?_ (by assumption)))
/-- what stands at a place of a heap that has only grown -/
local macro_rules | `(tactic| walk_at "get") => `(tactic| repeat (first | exact upd_same | assumption | refine upd_get (by assumption) ?_))
def sp_are_values : Sp := fun vs H Q _ => ∃ (f : Fd) (r : Addr) (v : Pv), vs = [.int (f.w * f.h : Nat), .int f.d, .int f.c, .ref r] ∧ f.Ok ∧ VOk f v ∧ RowsAt H r v ∧ Q (.bl true) H
def sp_Picture_init (CP : Addr) : Sp := fun vs H Q _ => ∃ (f : Fd) (a dx r : Addr) (v : Pv), vs = [.ref a, .int f.w, .int f.h, .int f.d, .int f.c, .ref r] ∧ f.Ok ∧ VOk f v ∧ RowsAt H r v ∧ H a = some (.ins CP dx []) ∧ ∀ H', SameB a H H' → PiAt CP H' a f v → Q .non H'
def sp_Picture_value (CP : Addr) : Sp := fun vs H Q _ => ∃ (f : Fd) (a : Addr) (v : Pv) (c x : Nat), vs = [.ref a, .int c, .int x] ∧ PiAt CP H a f v ∧ VOk f v ∧ c < f.c ∧ x < f.w * f.h ∧ Q (.int (vAt v c x : Nat)) H
def sp_Picture_rows (CP : Addr) : Sp := fun vs H Q _ => ∃ (f : Fd) (a : Addr) (v : Pv), vs = [.ref a] ∧ PiAt CP H a f v ∧ f.Ok ∧ VOk f v ∧ ∀ D H', Same H H' → RowsAt H' D v → Q (.ref D) H'
def sp_fits_frame (CF CP : Addr) : Sp := fun vs H Q _ => ∃ (f : Fd) (a b : Addr) (v : Pv), vs = [.ref a, .ref b] ∧ FrAt CF H a f ∧ PiAt CP H b f v ∧ Q (.bl true) H
def sp_gray_bit : Sp := fun vs H Q _ => ∃ (v p : Nat), vs = [.int v, .int p] ∧ v < 8 ∧ p < 3 ∧ Q (.int (grayN v p : Nat)) H
def sp_stored_bit (CP : Addr) : Sp := fun vs H Q _ => ∃ (f : Fd) (a : Addr) (v : Pv) (c x p : Nat), vs = [.ref a, .int c, .int x, .int p] ∧ PiAt CP H a f v ∧ f.Ok ∧ VOk f v ∧ c < f.c ∧ x < f.w * f.h ∧ p < f.d ∧ Q (.int (storedN f v c x p : Nat)) H
def sp_packet_bits (CF CP : Addr) : Sp := fun vs H Q _ => ∃ (f : Fd) (a b : Addr) (v : Pv) (k : K3) (kv : V), vs = [.ref a, .ref b, kv] ∧ FrAt CF H a f ∧ PiAt CP H b f v ∧ f.Ok ∧ VOk f v ∧ KyV H kv k ∧ okKey f k ∧ ∀ H', Same H H' → Q (.str (tx (bitsM f v k))) H'
def sp_packet_code (CF CP : Addr) : Sp := fun vs H Q _ => ∃ (f : Fd) (a b : Addr) (v : Pv) (k : K3) (kv : V), vs = [.ref a, .ref b, kv] ∧ FrAt CF H a f ∧ PiAt CP H b f v ∧ f.Ok ∧ VOk f v ∧ KyV H kv k ∧ okKey f k ∧ ∀ H', Same H H' → Q (.str (tx (cdM f v k))) H'
section
variable {P : Program} {wd : World} {K : PySem.W.Frag} {mg : Str → Option Value} {base : Heap} {CF CA CP : Addr}

theorem sc_gray_bit : FnScope ["value", "plane"] ["value", "plane"] (defScope s_gray_bit) := ⟨rfl, rfl, rfl, by decide +kernel, rfl, by decide +kernel, by decide +kernel⟩
theorem cal_gray_bit (T : Tx K mg CF CA CP) : Cal P wd K mg base 1 "gray_bit" ["value", "plane"] sp_gray_bit := by
  refine T.cal (d := d_gray_bit) 48 rfl sc_gray_bit (fun _ _ _ _ _ _ us hl => match us, hl with | [_, _], _ => rfl) (fun vs H Q E h => ?_) (fun f cdv A outer s H vs Q E hr h => ?_)
  · obtain ⟨v, p, rfl, _⟩ := h
    rfl
  · obtain ⟨v, p, rfl, hv, hp, k⟩ := h
    refine ⟨_, (pss_one (ps_ret (pe_op op_and (pe_op op_xor (pe_op op_shr (pv 0) (pv 1)) (pe_op op_shr (pv 0) (pe_op op_add (pv 1) pe_int))) pe_int))), ?_⟩
    walk_at "start"
    walk_at "go"
    rw [gray_all v (List.mem_range.mpr hv) p (List.mem_range.mpr hp)]
    exact k
theorem sc_Picture_value : FnScope ["self", "channel", "pixel"] ["self", "channel", "pixel"] (defScope s_Picture_value) := ⟨rfl, rfl, rfl, by decide +kernel, rfl, by decide +kernel, by decide +kernel⟩
theorem mcal_Picture_value (T : Tx K mg CF CA CP) : MCal P wd K mg base 1 CP "value" ["self", "channel", "pixel"] (sp_Picture_value CP) := by
  obtain ⟨f0, M0⟩ := T.mP 1 d_Picture_value rfl
  refine mcal_of M0 sc_Picture_value (fun _ _ _ _ _ _ us hl => match us, hl with | [_, _, _], _ => rfl) (fun vs H Q E h => ?_) (fun f cdv A outer s H vs Q E hr h => ?_)
  · obtain ⟨f, a, v, c, x, rfl, _⟩ := h
    rfl
  · obtain ⟨f, a, v, c, x, rfl, hP, hv, hc, hx, k⟩ := h
    refine ⟨_, (pss_one (ps_ret (pe_ix (ix_listK (K := K)) (pe_ix (ix_listK (K := K)) (pe_fldK (K := K) (pv 0) rfl) (pv 1) (fun _ _ => rfl)) (pv 2) (fun _ _ => rfl)))), ?_⟩
    walk_at "start"
    obtain ⟨r, hO, rs, hr1, hrs⟩ := hP
    walk_at "go"
    obtain ⟨b, hb1, hb2⟩ := rows_get hrs (c := c) (by rw [hv.c]; exact hc)
    refine g_ixL c (SqL.of hr1) rfl hb1 ?_
    walk_at "go"
    refine g_ixL x (SqL.of hb2) rfl (ints_get (by rw [row_len hv hc]; exact hx)) ?_
    exact k
theorem sc_fits_frame : FnScope ["frame", "picture"] ["frame", "picture"] (defScope s_fits_frame) := ⟨rfl, rfl, rfl, by decide +kernel, rfl, by decide +kernel, by decide +kernel⟩
theorem cal_fits_frame (T : Tx K mg CF CA CP) : Cal P wd K mg base 1 "fits_frame" ["frame", "picture"] (sp_fits_frame CF CP) := by
  refine T.cal (d := d_fits_frame) 47 rfl sc_fits_frame (fun _ _ _ _ _ _ us hl => match us, hl with | [_, _], _ => rfl) (fun vs H Q E h => ?_) (fun f cdv A outer s H vs Q E hr h => ?_)
  · obtain ⟨f, a, b, v, rfl, _⟩ := h
    rfl
  · obtain ⟨f, a, b, v, rfl, hF, hP, k⟩ := h
    refine ⟨_, (pss_cons (ps_if (PW.pt (pw_or (pt_cmpR op_ne (pe_fldK (K := K) (pv 0) rfl) (pe_fldK (K := K) (pv 1) rfl) (nomark _)) (pw_or1 (pt_cmpR op_ne (pe_fldK (K := K) (pv 0) rfl) (pe_fldK (K := K) (pv 1) rfl) (nomark _)))))
      (pss_one (ps_ret pe_bl))
      pss_nil)
      (pss_one (ps_ret (pe_and (pe_cmpR op_eq (pe_fldK (K := K) (pv 0) rfl) (pe_fldK (K := K) (pv 1) rfl) (nomark _)) (pe_one (pe_cmpR op_eq (pe_fldK (K := K) (pv 0) rfl) (pe_fldK (K := K) (pv 1) rfl) (nomark _))))))), ?_⟩
    walk_at "start"
    obtain ⟨r, hO, rs, hr1, hrs⟩ := hP
    walk_at "go"
    have e : decide ((f.c : Int) = (f.c : Int)) = true := decide_eq_true rfl
    rw [e]
    exact k
theorem sc_stored_bit : FnScope ["picture", "channel", "pixel", "plane", "middle", "side"] ["picture", "channel", "pixel", "plane"] (defScope s_stored_bit) := ⟨rfl, rfl, rfl, by decide +kernel, rfl, by decide +kernel, by decide +kernel⟩
theorem cal_stored_bit (T : Tx K mg CF CA CP) : Cal P wd K mg base 2 "stored_bit" ["picture", "channel", "pixel", "plane"] (sp_stored_bit CP) := by
  refine T.cal (d := d_stored_bit) 49 rfl sc_stored_bit (fun _ _ _ _ _ _ us hl => match us, hl with | [_, _, _, _], _ => rfl) (fun vs H Q E h => ?_) (fun f cdv A outer s H vs Q E hr h => ?_)
  · obtain ⟨f, a, v, c, x, p, rfl, _⟩ := h
    rfl
  · obtain ⟨f, a, v, c, x, p, rfl, hP, ok, hv, hc, hx, hp, k⟩ := h
    refine ⟨_, (pss_cons (ps_if (pt_cmpR op_eq (pe_fldK (K := K) (pv 0) rfl) pe_int (nomark _))
      (pss_one (ps_ret (pe_cal (cal_gray_bit T) hr (pa_cons (pe_mcal T.cP.cl (mcal_Picture_value T) hr (pv 0) (pa_cons pe_int (pa_cons (pv 2) pa_nil))) (pa_cons (pv 3) pa_nil)))))
      pss_nil)
      (pss_cons (ps_set (i := 4) sc_stored_bit.nd rfl (by first | exact Or.inl rfl | exact Or.inr rfl) (pe_cal (cal_gray_bit T) hr (pa_cons (pe_mcal T.cP.cl (mcal_Picture_value T) hr (pv 0) (pa_cons pe_int (pa_cons (pv 2) pa_nil))) (pa_cons (pv 3) pa_nil))))
      (pss_cons (ps_if (pt_cmpR op_eq (pv 1) pe_int (nomark _))
      (pss_one (ps_ret (pv 4)))
      pss_nil)
      (pss_cons (ps_set (i := 5) sc_stored_bit.nd rfl (by first | exact Or.inl rfl | exact Or.inr rfl) (pe_ifExp (pt_cmpR op_eq (pv 1) pe_int (nomark _)) pe_int pe_int))
      (pss_one (ps_ret (pe_op op_xor (pe_cal (cal_gray_bit T) hr (pa_cons (pe_mcal T.cP.cl (mcal_Picture_value T) hr (pv 0) (pa_cons (pv 5) (pa_cons (pv 2) pa_nil))) (pa_cons (pv 3) pa_nil))) (pv 4)))))))), ?_⟩
    walk_at "start"
    obtain ⟨r, hO, hR⟩ := id hP
    have hd := ok.d
    have hcc := ok.c
    walk_at "go"
    refine g_ite (fun e1 => ?_) (fun e1 => ?_)
    · have e1 : f.c = 1 := by have := of_decide_eq_true e1; omega
      walk_at "go"
      refine ⟨f, a, v, 0, x, rfl, hP, hv, by omega, hx, ?_⟩
      walk_at "go"
      refine ⟨vAt v 0 x, p, rfl, (hv.at ok (by omega) hx).2, by omega, ?_⟩
      refine q_int k ?_
      unfold storedN
      rw [if_pos e1]
    · have e1 : ¬ f.c = 1 := by have := of_decide_eq_false e1; omega
      walk_at "go"
      refine ⟨f, a, v, 1, x, rfl, hP, hv, by omega, hx, ?_⟩
      walk_at "go"
      refine ⟨vAt v 1 x, p, rfl, (hv.at ok (by omega) hx).2, by omega, ?_⟩
      walk_at "go"
      refine g_ite (fun e2 => ?_) (fun e2 => ?_)
      · have e2 : c = 0 := by have := of_decide_eq_true e2; omega
        walk_at "go"
        refine q_int k ?_
        unfold storedN
        rw [if_neg e1, if_pos e2]
      · have e2 : ¬ c = 0 := by have := of_decide_eq_false e2; omega
        walk_at "go"
        have e3 : (if decide ((c : Int) = 1) = true then (0 : Int) else 2) = ((if c = 1 then 0 else 2 : Nat) : Int) := by
          by_cases h : c = 1
          · rw [if_pos h, h]
            rfl
          · rw [if_neg h, if_neg (by simp; omega)]
            rfl
        rw [e3]
        walk_at "go"
        refine ⟨f, a, v, if c = 1 then 0 else 2, x, rfl, hP, hv, by split <;> omega, hx, ?_⟩
        walk_at "go"
        refine ⟨vAt v (if c = 1 then 0 else 2) x, p, rfl, (hv.at ok (by split <;> omega) hx).2, by omega, ?_⟩
        walk_at "go"
        rw [xor_all _ (List.mem_range.mpr (grayN_lt _ _)) _ (List.mem_range.mpr (grayN_lt _ _))]
        refine q_int k ?_
        unfold storedN
        rw [if_neg e1, if_neg e2]

theorem sc_packet_bits : FnScope ["frame", "picture", "key", "channel", "tile", "plane", "pixel"] ["frame", "picture", "key"] (defScope s_packet_bits) := ⟨rfl, rfl, rfl, by decide +kernel, rfl, by decide +kernel, by decide +kernel⟩
theorem cal_packet_bits (T : Tx K mg CF CA CP) : Cal P wd K mg base 5 "packet_bits" ["frame", "picture", "key"] (sp_packet_bits CF CP) := by
  refine T.cal (d := d_packet_bits) 50 rfl sc_packet_bits (fun _ _ _ _ _ _ us hl => match us, hl with | [_, _, _], _ => rfl) (fun vs H Q E h => ?_) (fun f cdv A outer s H vs Q E hr h => ?_)
  · obtain ⟨f, a, b, v, ky, kv, rfl, _⟩ := h
    rfl
  · obtain ⟨f, a, b, v, ky, kv, rfl, hF, hP, ok, hv, hk, hok, k⟩ := h
    refine ⟨_, (pss_cons (ps_if (pt_not (pt_val (pe_cal (cal_fits_frame T) hr (pa_cons (pv 0) (pa_cons (pv 1) pa_nil)))))
      pss_never
      pss_nil)
      (pss_cons (ps_expr (pe_cal (cal_check_key T) hr (pa_cons (pv 0) (pa_cons (pv 2) pa_nil))))
      (pss_cons (ps_asg (pv 2) (pg_tupK (K := K) (n := 3) (by rfl) (pgs_cons (pg_name (i := 3) sc_packet_bits.nd rfl (by first | exact Or.inl rfl | exact Or.inr rfl)) (pgs_cons (pg_name (i := 4) sc_packet_bits.nd rfl (by first | exact Or.inl rfl | exact Or.inr rfl)) (pgs_cons (pg_name (i := 5) sc_packet_bits.nd rfl (by first | exact Or.inl rfl | exact Or.inr rfl)) pgs_nil)))))
      (pss_one (ps_ret (pe_join (pe_tx txe) (pe_lc (own := [("pixel", 6)]) rfl sc_packet_bits.nd (pi_listK (K := K) (pe_cal (cal_tile_pixels T) hr (pa_cons (pv 0) (pa_cons (pv 4) pa_nil)))) (blkOk_by (N := ["frame", "picture", "key", "channel", "tile", "plane", "pixel"]) (sc := defScope s_packet_bits) (by decide +kernel)) (fun _ _ _ _ _ => (pg_name (i := 6) sc_packet_bits.nd rfl (by first | exact Or.inl rfl | exact Or.inr rfl))) (fun _ _ _ _ _ => pts_nil) (fun _ _ _ _ _ => (pe_ifExp (pt_truthI (pe_cal (cal_stored_bit T) hr (pa_cons (pv 1) (pa_cons (pv 3) (pa_cons (pv 6) (pa_cons (pv 5) pa_nil)))))) (pe_tx tx1) (pe_tx tx0)))))))))), ?_⟩
    walk_at "start"
    obtain ⟨r, hO, hR⟩ := id hP
    walk_at "go"
    refine ⟨f, a, b, v, rfl, hF, hP, ?_⟩
    walk_at "go"
    refine ⟨f, a, ky, kv, rfl, hF, ok, hk, hok, ?_⟩
    obtain ⟨rk, e, hr2⟩ := hk
    subst e
    walk_at "go"
    refine g_gtup (SqT.of hr2) rfl ?_
    walk_at "go"
    refine ⟨f, a, ky.2.1, rfl, hF, ok, hok.2.1, fun D1 H1 S1 hD1 => ?_⟩
    walk_at "go"
    refine ⟨⟨_, SqL.of hD1⟩, ?_⟩
    refine g_lcV (fun i acc _ => acc = (((pixsM f ky.2.1).map fun x => if decide (storedN f v ky.1 x ky.2.2 = 0) = true then 48 else 49).map fun c => V.str (tx [c])).take i) (by rw [List.length_map, pixs_len]; have := tm_le ok hok; unfold Fd.tm at this; omega) (itv_l D1 _) (fun H2 S => S.seq (SqL.of hD1)) rfl (fun D i acc H2 Nx hi hD hH S hI hN KK hK R hR => ?_) (fun D acc H2 hD hH S hI => ?_)
    · rw [List.length_map] at hi
      have eg : (List.map (fun (n : Nat) => V.int n) (pixsM f ky.2.1)).getD i .non = .int ((pixsM f ky.2.1)[i] : Nat) := by
        rw [List.getD_eq_getElem?_getD, List.getElem?_map, List.getElem?_eq_getElem hi]
        rfl
      rw [eg]
      walk_at "go"
      refine hR _ _ ⟨rfl, ?_⟩
      walk_at "go"
      refine ⟨f, b, v, ky.1, (pixsM f ky.2.1)[i], ky.2.2, rfl, hP.up (S1.trans S), ok, hv, hok.1, pixs_lt ok hok.2.1 _ (List.getElem_mem hi), hok.2.2, ?_⟩
      walk_at "go"
      refine hK _ _ (Same.refl _) ?_
      rw [hI, List.take_succ_eq_append_getElem (by rw [List.length_map, List.length_map]; exact hi), List.getElem_map, List.getElem_map]
      congr 1
      show [V.str (tx [_])] = [V.str (tx [_])]
      congr 4
      by_cases h : storedN f v ky.1 (pixsM f ky.2.1)[i] ky.2.2 = 0
      · rw [h]
        rfl
      · rw [if_pos (bne_iff_ne.mpr (by omega)), decide_eq_false h]
        rfl
    · walk_at "go"
      refine g_join (l := bitsM f v ky) (by rw [bits_len]; have := tm_le ok hok; omega) (SqL.of ?_) (k _ (S1.trans S))
      rw [hH, hI]
      congr 2
      rw [List.take_of_length_le (by simp)]
      rfl
theorem sc_packet_code : FnScope ["frame", "picture", "key", "bits"] ["frame", "picture", "key"] (defScope s_packet_code) := ⟨rfl, rfl, rfl, by decide +kernel, rfl, by decide +kernel, by decide +kernel⟩
theorem cal_packet_code (T : Tx K mg CF CA CP) : Cal P wd K mg base 6 "packet_code" ["frame", "picture", "key"] (sp_packet_code CF CP) := by
  refine T.cal (d := d_packet_code) 51 rfl sc_packet_code (fun _ _ _ _ _ _ us hl => match us, hl with | [_, _, _], _ => rfl) (fun vs H Q E h => ?_) (fun f cdv A outer s H vs Q E hr h => ?_)
  · obtain ⟨f, a, b, v, ky, kv, rfl, _⟩ := h
    rfl
  · obtain ⟨f, a, b, v, ky, kv, rfl, hF, hP, ok, hv, hk, hok, k⟩ := h
    refine ⟨_, (pss_cons (ps_set (i := 3) sc_packet_code.nd rfl (by first | exact Or.inl rfl | exact Or.inr rfl) (pe_cal (cal_packet_bits T) hr (pa_cons (pv 0) (pa_cons (pv 1) (pa_cons (pv 2) pa_nil)))))
      (pss_one (ps_ret (pe_cal (cal_encode T) hr (pa_cons (pe_ix (ix_tupK (K := K)) (pe_cal (cal_tile_size T) hr (pa_cons (pv 0) (pa_cons (pe_ix (ix_tupK (K := K)) (pv 2) pe_int (fun _ _ => rfl)) pa_nil))) pe_int (fun _ _ => rfl)) (pa_cons (pv 3) pa_nil)))))), ?_⟩
    walk_at "start"
    obtain ⟨r, hO, hR⟩ := id hP
    walk_at "go"
    refine ⟨f, a, b, v, ky, kv, rfl, hF, hP, ok, hv, hk, hok, fun H1 S1 => ?_⟩
    obtain ⟨rk, e, hr2⟩ := hk
    subst e
    walk_at "go"
    refine g_ixT 1 (SqT.of (S1 _ _ hr2)) rfl rfl ?_
    walk_at "go"
    refine ⟨f, a, ky.2.1, rfl, hF.up S1, ok, hok.2.1, fun T1 H2 S2 hT1 => ?_⟩
    walk_at "go"
    refine g_ixT 0 (SqT.of hT1) rfl rfl ?_
    walk_at "go"
    exact ⟨f.tw ky.2.1, bitsM f v ky, rfl, bits_dom ok v hok, fun H' S => k H' ((S1.trans S2).trans S)⟩
end

end PP
namespace PP
open PySem PySem.Spec PyProof.Rows L2
/-- a name's new value, in a state that is written out -/
local macro_rules | `(tactic| walk_at "set") => `(tactic| (simp only [List.set_cons_succ, List.set_cons_zero]; exact rfl))
local macro_rules | `(tactic| walk_at "start") => `(tactic| (refine g_start (σ' := ?sgm) ?hstart ?_; (case hstart => (simp only [start_eS, start_eN, start_e0]; exact rfl))))
/-- one step of a reading -/
local macro_rules | `(tactic| walk_at "g1") => `(tactic| first
  | ((with_reducible refine g_var (v := ?vv) ?hvv ?_); (case hvv => exact rfl))
  | ((with_reducible refine g_nxS (σ' := ?sgm) ?hset ?_); (case hset => walk_at "set"))
  | ((with_reducible refine g_gnameS (σ' := ?sgm) ?hset ?_); (case hset => walk_at "set"))
  | with_reducible first
    | refine g_c ?_
    | refine g_op ?_
    | refine g_I0 ?_
    | refine g_tst ?_
    | refine g_blc ?_
    | refine g_seq ?_
    | refine g_set ?_
    | refine g_ret ?_
    | refine g_if ?_
    | refine g_not ?_
    | refine g_neI ?_
    | refine g_B ?_
    | refine g_cons ?_
    | refine g_nil ?_
    | refine g_call ?_
    | refine g_cb ?_
    | refine g_fldC ?_
    | refine g_pir (by assumption) (by assumption) ?_
    | refine g_sfld ?_
    | refine g_drop ?_
    | refine g_nx ?_
    | refine g_rt ?_
    | refine g_nxt ?_
    | refine g_for ?_
    | refine g_ilst ?_
    | refine g_chain ?_
    | refine g_gname ?_
    | refine g_lc ?_
    | refine g_yes ?_
    | refine g_true ?_
    | refine g_nF ?_
    | refine g_dT (by omega) ?_
    | refine g_ndF (by omega) ?_
  | with_reducible refine g_exR ?_
  | ((with_reducible refine g_I ?hcc ?_); (case hcc => first | (intro hz; omega) | omega | exact Or.inl (by omega) | exact Or.inr (by omega) | exact ⟨by omega, by omega, by omega⟩ | exact ⟨by omega, by omega⟩)))
local macro_rules | `(tactic| walk_at "go") => `(tactic| repeat (walk_at "g1"))
/-- if c: x = an int, joined -/
local macro_rules | `(tactic| walk_at "when") => `(tactic| (refine g_whenI (i0 := ?wj) (i1 := ?wi) ?wo ?wh ?_; (case wo => exact rfl); (case wh => (intro hw Q' hq; walk_at "go"; exact hq))))
/-- a heap that has only grown -/
local macro_rules | `(tactic| walk_at "same") => `(tactic| repeat (first | exact Same.refl _ | assumption | refine L2.Same.new ?_ (by assumption)))
/-- what stands at a place of a heap that has only grown -/
local macro_rules | `(tactic| walk_at "get") => `(tactic| repeat (first | exact upd_same | assumption | refine upd_get (by assumption) ?_))
theorem vAt_get {v : Pv} {c x : Nat} (h : x < (v.getD c []).length) : (((v.getD c []).map fun (n : Nat) => V.int n).getD x .non) = .int (vAt v c x : Nat) := by
  rw [List.getD_eq_getElem?_getD, ints_get h]
  rfl
theorem RowsAt.putI {H H' : Hp} {a r C dx : Addr} {fs : List (Str × V)} {v : Pv} (h : RowsAt H r v) (ha : H a = some (.ins C dx fs)) (S : SameB a H H') : RowsAt H' r v := by
  obtain ⟨rs, h1, h2⟩ := h
  refine ⟨rs, S _ _ (fun q => by rw [q, ha] at h1; cases h1) h1, h2.mono fun x y hx => ?_⟩
  obtain ⟨b, e, hb⟩ := hx
  exact ⟨b, e, S _ _ (fun q => by rw [q, ha] at hb; cases hb) hb⟩
section
variable {P : Program} {wd : World} {K : PySem.W.Frag} {mg : Str → Option Value} {base : Heap} {CF CA CP : Addr}

theorem sc_are_values : FnScope ["pixels", "depth", "channels", "values", "beyond", "row", "value"] ["pixels", "depth", "channels", "values"] (defScope s_are_values) := ⟨rfl, rfl, rfl, by decide +kernel, rfl, by decide +kernel, by decide +kernel⟩
theorem cal_are_values (T : Tx K mg CF CA CP) : Cal P wd K mg base 1 "_are_values" ["pixels", "depth", "channels", "values"] sp_are_values := by
  refine T.cal (d := d_are_values) 45 rfl sc_are_values (fun _ _ _ _ _ _ us hl => match us, hl with | [_, _, _, _], _ => rfl) (fun vs H Q E h => ?_) (fun f cdv A outer s H vs Q E hr h => ?_)
  · obtain ⟨f, r, v, rfl, _⟩ := h
    rfl
  · obtain ⟨f, r, v, rfl, ok, hv, hR, k⟩ := h
    refine ⟨_, (pss_cons (ps_if (pt_cmpR op_ne (pe_callB (call_len_seqK (K := K)) (by rfl) (T.nof _ (fre_len)) PySem.boot_len (pa_cons (pv 3) pa_nil)) (pv 2) (nomark _))
      (pss_one (ps_ret pe_bl))
      pss_nil)
      (pss_cons (ps_set (i := 4) sc_are_values.nd rfl (by first | exact Or.inl rfl | exact Or.inr rfl) (pe_op op_shl pe_int (pv 1)))
      (pss_cons (ps_for PassesOwn.never rfl (pi_listK (K := K) (pv 3)) (pg_name (i := 5) sc_are_values.nd rfl (by first | exact Or.inl rfl | exact Or.inr rfl))
      (pss_cons (ps_if (pt_cmpR op_ne (pe_callB (call_len_seqK (K := K)) (by rfl) (T.nof _ (fre_len)) PySem.boot_len (pa_cons (pv 5) pa_nil)) (pv 0) (nomark _))
      (pss_one (ps_ret pe_bl))
      pss_nil)
      (pss_one (ps_for PassesOwn.never rfl (pi_listK (K := K) (pv 5)) (pg_name (i := 6) sc_are_values.nd rfl (by first | exact Or.inl rfl | exact Or.inr rfl))
      (pss_one (ps_if (pt_not (pt_chain op_le op_lt pe_int (pv 6) (pv 4)))
      (pss_one (ps_ret pe_bl))
      pss_nil))))))
      (pss_one (ps_ret pe_bl))))), ?_⟩
    walk_at "start"
    obtain ⟨rs, hr1, hrs⟩ := hR
    have hd := ok.d
    have hcc := ok.cc
    walk_at "go"
    refine ⟨r, rs, rfl, .inl (SqL.of hr1), ?_⟩
    rw [hrs.length, hv.c]
    walk_at "go"
    refine ⟨⟨_, SqL.of hr1⟩, ?_⟩
    have hB : (1 : Int) * 2 ^ ((f.d : Int)).toNat = ((2 ^ f.d : Nat) : Int) := by
      rw [Int.one_mul, Int.toNat_natCast]
      norm_cast
    rw [hB]
    refine g_forV (fun i σ H' => H' = H ∧ ∃ e5 e6, σ = [some (.int (f.w * f.h : Nat)), some (.int f.d), some (.int f.c), some (.ref r), some (.int (2 ^ f.d : Nat)), e5, e6]) (itv_l r rs) (fun i σ H' h => by rw [h.1]; exact SqL.of hr1) ⟨rfl, none, none, rfl⟩ (fun i σ H' hi h => ?_) (fun σ H' h => ?_)
    · obtain ⟨e1, e5, e6, e2⟩ := h
      subst e1 e2
      rw [hrs.length] at hi
      obtain ⟨b, hb1, hb2⟩ := rows_get hrs hi
      have eg : rs.getD i .non = .ref b := by rw [List.getD_eq_getElem?_getD, hb1]; rfl
      have hi' : i < f.c := by rw [← hv.c]; exact hi
      rw [eg]
      walk_at "go"
      refine ⟨b, _, rfl, .inl (SqL.of hb2), ?_⟩
      rw [List.length_map, row_len hv hi']
      walk_at "go"
      refine ⟨⟨_, SqL.of hb2⟩, ?_⟩
      refine g_forV (fun j σ H'' => H'' = H' ∧ ∃ e6, σ = [some (.int (f.w * f.h : Nat)), some (.int f.d), some (.int f.c), some (.ref r), some (.int (2 ^ f.d : Nat)), some (.ref b), e6]) (itv_l b _) (fun i σ H'' h => by rw [h.1]; exact SqL.of hb2) ⟨rfl, _, rfl⟩ (fun j σ H'' hj h => ?_) (fun σ H'' h => ?_)
      · obtain ⟨e1, e6', e2⟩ := h
        subst e1 e2
        rw [List.length_map] at hj
        rw [vAt_get hj]
        have hlt := (hv.at ok hi' (by rw [← row_len hv hi']; exact hj)).1
        walk_at "go"
        exact ⟨rfl, _, rfl⟩
      · obtain ⟨e1, e6', e2⟩ := h
        subst e1 e2
        walk_at "go"
        exact ⟨rfl, _, _, rfl⟩
    · obtain ⟨e1, e5, e6, e2⟩ := h
      subst e1 e2
      walk_at "go"
      exact k
theorem sc_Picture_rows : FnScope ["self", "row"] ["self"] (defScope s_Picture_rows) := ⟨rfl, rfl, rfl, by decide +kernel, rfl, by decide +kernel, by decide +kernel⟩
theorem mcal_Picture_rows (T : Tx K mg CF CA CP) : MCal P wd K mg base 1 CP "rows" ["self"] (sp_Picture_rows CP) := by
  obtain ⟨f0, M0⟩ := T.mP 2 d_Picture_rows rfl
  refine mcal_of M0 sc_Picture_rows (fun _ _ _ _ _ _ us hl => match us, hl with | [_], _ => rfl) (fun vs H Q E h => ?_) (fun f cdv A outer s H vs Q E hr h => ?_)
  · obtain ⟨f, a, v, rfl, _⟩ := h
    rfl
  · obtain ⟨f, a, v, rfl, hP, ok, hv, k⟩ := h
    refine ⟨_, (pss_one (ps_ret (pe_lc (own := [("row", 1)]) rfl sc_Picture_rows.nd (pi_listK (K := K) (pe_fldK (K := K) (pv 0) rfl)) (blkOk_by (N := ["self", "row"]) (sc := defScope s_Picture_rows) (by decide +kernel)) (fun _ _ _ _ _ => (pg_name (i := 1) sc_Picture_rows.nd rfl (by first | exact Or.inl rfl | exact Or.inr rfl))) (fun _ _ _ _ _ => pts_nil) (fun _ _ _ _ _ => (pe_callTy (call_list_ofK (K := K)) (by rfl) (T.nof _ (fre_list)) (by decide +kernel) (pa_cons (pv 1) pa_nil)))))), ?_⟩
    walk_at "start"
    obtain ⟨r, hO, rs, hr1, hrs⟩ := hP
    walk_at "go"
    refine ⟨⟨_, SqL.of hr1⟩, ?_⟩
    refine g_lcV (fun i acc H => Paired (RowV H) acc (v.take i)) (by rw [hrs.length, hv.c]; have := ok.cc; omega) (itv_l r rs) (fun H2 S => S.seq (SqL.of hr1)) .nil (fun D i acc H2 Nx hi hD hH S hI hN KK hK R hR => ?_) (fun D acc H2 hD hH S hI => ?_)
    · rw [hrs.length] at hi
      obtain ⟨b, hb1, hb2⟩ := rows_get hrs hi
      have eg : rs.getD i .non = .ref b := by rw [List.getD_eq_getElem?_getD, hb1]; rfl
      rw [eg]
      walk_at "go"
      refine hR _ _ ⟨rfl, ?_⟩
      walk_at "go"
      refine ⟨b, _, rfl, .inl (SqL.of (S _ _ hb2)), fun l hl => hK _ _ (same_new hl) ?_⟩
      rw [List.take_succ_eq_append_getElem hi]
      have er : v[i] = v.getD i [] := by rw [List.getD_eq_getElem?_getD, List.getElem?_eq_getElem hi]; rfl
      rw [er]
      exact row_new hH hl hI
    · refine k D H2 S ⟨acc, hH, ?_⟩
      rw [hrs.length, List.take_length] at hI
      exact hI.mono fun _ _ q => q.up same_hide
theorem sc_Picture_init : FnScope ["self", "width", "height", "depth", "channels", "values", "row"] ["self", "width", "height", "depth", "channels", "values"] (defScope s_Picture_init) := ⟨rfl, rfl, rfl, by decide +kernel, rfl, by decide +kernel, by decide +kernel⟩
theorem mcal_Picture_init (T : Tx K mg CF CA CP) : MCal P wd K mg base 2 CP "__init__" ["self", "width", "height", "depth", "channels", "values"] (sp_Picture_init CP) := by
  obtain ⟨f0, M0⟩ := T.mP 0 d_Picture_init rfl
  refine mcal_of M0 sc_Picture_init (fun _ _ _ _ _ _ us hl => match us, hl with | [_, _, _, _, _, _], _ => rfl) (fun vs H Q E h => ?_) (fun f cdv A outer s H vs Q E hr h => ?_)
  · obtain ⟨f, a, dx, r, v, rfl, _⟩ := h
    rfl
  · obtain ⟨f, a, dx, r, v, rfl, ok, hv, hR, ha, k⟩ := h
    refine ⟨_, (pss_cons (ps_expr (pe_cal (cal_check_shape T) hr (pa_cons (pv 1) (pa_cons (pv 2) (pa_cons (pv 3) (pa_cons (pv 4) pa_nil))))))
      (pss_cons (ps_expr (pe_cal (cal_check_size T) hr (pa_cons (pv 1) (pa_cons (pv 2) (pa_cons (pv 4) pa_nil)))))
      (pss_cons (ps_if (pt_not (pt_val (pe_cal (cal_are_values T) hr (pa_cons (pe_op op_mul (pv 1) (pv 2)) (pa_cons (pv 3) (pa_cons (pv 4) (pa_cons (pv 5) pa_nil)))))))
      pss_never
      pss_nil)
      (pss_cons (ps_fld (pv 0) (pv 1) rfl)
      (pss_cons (ps_fld (pv 0) (pv 2) rfl)
      (pss_cons (ps_fld (pv 0) (pv 3) rfl)
      (pss_cons (ps_fld (pv 0) (pv 4) rfl)
      (pss_one (ps_fld (pv 0) (pe_lc (own := [("row", 6)]) rfl sc_Picture_init.nd (pi_listK (K := K) (pv 5)) (blkOk_by (N := ["self", "width", "height", "depth", "channels", "values", "row"]) (sc := defScope s_Picture_init) (by decide +kernel)) (fun _ _ _ _ _ => (pg_name (i := 6) sc_Picture_init.nd rfl (by first | exact Or.inl rfl | exact Or.inr rfl))) (fun _ _ _ _ _ => pts_nil) (fun _ _ _ _ _ => (pe_callTy (call_list_ofK (K := K)) (by rfl) (T.nof _ (fre_list)) (by decide +kernel) (pa_cons (pv 6) pa_nil)))) rfl))))))))), ?_⟩
    walk_at "start"
    have hwh := ok.wh
    have hw := ok.w
    have hh := ok.h
    walk_at "go"
    refine ⟨f, rfl, ok, ?_⟩
    walk_at "go"
    refine ⟨f, rfl, ok, ?_⟩
    walk_at "go"
    refine ⟨f, r, v, rfl, ok, hv, hR, ?_⟩
    walk_at "go"
    refine g_sfc T.cP ha (by decide +kernel) (by repeat (first | decide | refine lt_putF ?_)) ?_
    walk_at "go"
    refine g_sfc T.cP upd_same (by decide +kernel) (by repeat (first | decide | refine lt_putF ?_)) ?_
    rw [upd_upd]
    walk_at "go"
    refine g_sfc T.cP upd_same (by decide +kernel) (by repeat (first | decide | refine lt_putF ?_)) ?_
    rw [upd_upd]
    walk_at "go"
    refine g_sfc T.cP upd_same (by decide +kernel) (by repeat (first | decide | refine lt_putF ?_)) ?_
    rw [upd_upd]
    walk_at "go"
    generalize hX : (upd H a (.ins CP dx (putF "channels" (.int f.c) (putF "depth" (.int f.d) (putF "height" (.int f.h) (putF "width" (.int f.w) [])))))) = H4
    have hR4 : RowsAt H4 r v := by
      rw [← hX]
      exact hR.putI ha SameB.refl.put
    have ha4 : H4 a = some (.ins CP dx [("width", .int f.w), ("height", .int f.h), ("depth", .int f.d), ("channels", .int f.c)]) := by
      rw [← hX]
      exact upd_same
    have SB4 : SameB a H H4 := by
      rw [← hX]
      exact SameB.refl.put
    obtain ⟨rs, hr1, hrs⟩ := hR4
    refine ⟨⟨_, SqL.of hr1⟩, ?_⟩
    refine g_lcV (fun i acc H => Paired (RowV H) acc (v.take i)) (by rw [hrs.length, hv.c]; have := ok.cc; omega) (itv_l r rs) (fun H2 S => S.seq (SqL.of hr1)) .nil (fun D i acc H2 Nx hi hD hH S hI hN KK hK R hR => ?_) (fun D acc H2 hD hH S hI => ?_)
    · rw [hrs.length] at hi
      obtain ⟨b, hb1, hb2⟩ := rows_get hrs hi
      have eg : rs.getD i .non = .ref b := by rw [List.getD_eq_getElem?_getD, hb1]; rfl
      rw [eg]
      walk_at "go"
      refine hR _ _ ⟨rfl, ?_⟩
      walk_at "go"
      refine ⟨b, _, rfl, .inl (SqL.of (S _ _ hb2)), fun l hl => hK _ _ (same_new hl) ?_⟩
      rw [List.take_succ_eq_append_getElem hi]
      have er : v[i] = v.getD i [] := by rw [List.getD_eq_getElem?_getD, List.getElem?_eq_getElem hi]; rfl
      rw [er]
      exact row_new hH hl hI
    · walk_at "go"
      refine g_sfc T.cP (S _ _ ha4) (by decide +kernel) (show 4 < 1000 by decide) ?_
      walk_at "go"
      rw [hrs.length, List.take_length] at hI
      have hRD : RowsAt H2 D v := ⟨acc, hH, hI.mono fun _ _ q => q.up same_hide⟩
      refine k _ (SB4.then S).put ⟨D, ⟨dx, upd_same⟩, hRD.putI (S _ _ ha4) SameB.refl.put⟩
end

end PP
namespace PP
open PySem PySem.Spec PyProof.Rows L2
/-- a name's new value, in a state that is written out -/
local macro_rules | `(tactic| walk_at "set") => `(tactic| (simp only [List.set_cons_succ, List.set_cons_zero]; exact rfl))
local macro_rules | `(tactic| walk_at "start") => `(tactic| (refine g_start (σ' := ?sgm) ?hstart ?_; (case hstart => (simp only [start_eS, start_eN, start_e0]; exact rfl))))
/-- one step of a reading -/
local macro_rules | `(tactic| walk_at "g1") => `(tactic| first
  | fail)
local macro_rules | `(tactic| walk_at "go") => `(tactic| repeat (walk_at "g1"))
/-- if c: x = an int, joined -/
local macro_rules | `(tactic| walk_at "when") => `(tactic| (refine g_whenI (i0 := ?wj) (i1 := ?wi) ?wo ?wh ?_; (case wo => exact rfl); (case wh => (intro hw Q' hq; walk_at "go"; exact hq))))
/-- a heap that has only grown -/
local macro_rules | `(tactic| walk_at "same") => `(tactic| repeat (first | exact Same.refl _ | assumption | refine L2.Same.new ?_ (by assumption)))
/-- what stands at a place of a heap that has only grown -/
local macro_rules | `(tactic| walk_at "get") => `(tactic| repeat (first | exact upd_same | assumption | refine upd_get (by assumption) ?_))
/-! ### regions, requests, pieces -/
structure Rg where
  l : Nat
  t : Nat
  w : Nat
  h : Nat
  a : Nat
structure Rg.Ok (g : Rg) : Prop where
  l : g.l < 64
  t : g.t < 64
  w : 1 ≤ g.w ∧ g.w ≤ 64
  h : 1 ≤ g.h ∧ g.h ≤ 64
  a : g.a ≤ 16
def rgO (g : Rg) : HO := .tup [.int g.l, .int g.t, .int g.w, .int g.h, .int g.a]
def RgV (H : Hp) (v : V) (g : Rg) : Prop := ∃ r, v = .ref r ∧ H r = some (rgO g) ∧ g.Ok
theorem RgV.up {H H' : Hp} {v : V} {g : Rg} (h : RgV H v g) (S : Same H H') : RgV H' v g := by
  obtain ⟨r, e, h, o⟩ := h
  exact ⟨r, e, S _ _ h, o⟩
def RgsAt (H : Hp) (r : Addr) (gs : List Rg) : Prop := ∃ rs, H r = some (.lst rs) ∧ Paired (RgV H) rs gs ∧ gs.length ≤ 16
theorem RgsAt.up {H H' : Hp} {r : Addr} {gs : List Rg} (h : RgsAt H r gs) (S : Same H H') : RgsAt H' r gs := by
  obtain ⟨rs, e, h, o⟩ := h
  exact ⟨rs, S _ _ e, h.mono fun _ _ h => h.up S, o⟩
theorem RgsAt.put {H H' : Hp} {r t : Addr} {gs : List Rg} {m : Mp} (h : RgsAt H r gs) (ht : H t = some (.dT (encM m))) (S : SameB t H H') : RgsAt H' r gs := by
  obtain ⟨rs, e, h, o⟩ := h
  refine ⟨rs, S _ _ (fun q => by rw [q, ht] at e; cases e) e, h.mono fun x y hx => ?_, o⟩
  obtain ⟨b, e, hb, o⟩ := hx
  exact ⟨b, e, S _ _ (fun q => by rw [q, ht] at hb; cases hb) hb, o⟩
theorem pair_at {α β : Type} {F : α → β → Prop} {d : α} : ∀ {l₁ : List α} {l₂ : List β}, Paired F l₁ l₂ → ∀ {i : Nat} (h : i < l₂.length), F (l₁.getD i d) l₂[i]
  | _, _, .nil, i, h => by cases h
  | _, _, .cons h _, 0, _ => h
  | _, _, .cons _ t, i + 1, h => pair_at t (Nat.lt_of_succ_lt_succ h)
/-- a request: its key and its start -/
abbrev En : Type := K3 × Nat
def EnV (H : Hp) (v : V) (e : En) : Prop := ∃ r kr, v = .ref r ∧ H r = some (.tup [kr, .int (e.2 : Nat)]) ∧ KyV H kr e.1
theorem EnV.up {H H' : Hp} {v : V} {e : En} (h : EnV H v e) (S : Same H H') : EnV H' v e := by
  obtain ⟨r, kr, q, h, o⟩ := h
  exact ⟨r, kr, q, S _ _ h, o.up S⟩
theorem EnV.put {H H' : Hp} {t : Addr} {v : V} {e : En} {m : Mp} (h : EnV H v e) (ht : H t = some (.dT (encM m))) (S : SameB t H H') : EnV H' v e := by
  obtain ⟨r, kr, q, h, o⟩ := h
  exact ⟨r, kr, q, S _ _ (fun q => by rw [q, ht] at h; cases h) h, o.put ht S⟩
abbrev Pc : Type := K3 × Nat × List Nat
def PcV (H : Hp) (v : V) (e : Pc) : Prop := ∃ r kr, v = .ref r ∧ H r = some (.tup [kr, .int (e.2.1 : Nat), .str (tx e.2.2)]) ∧ KyV H kr e.1
theorem PcV.up {H H' : Hp} {v : V} {e : Pc} (h : PcV H v e) (S : Same H H') : PcV H' v e := by
  obtain ⟨r, kr, q, h, o⟩ := h
  exact ⟨r, kr, q, S _ _ h, o.up S⟩
theorem PcV.put {H H' : Hp} {t : Addr} {v : V} {e : Pc} {m : Mp} (h : PcV H v e) (ht : H t = some (.dT (encM m))) (S : SameB t H H') : PcV H' v e := by
  obtain ⟨r, kr, q, h, o⟩ := h
  exact ⟨r, kr, q, S _ _ (fun q => by rw [q, ht] at h; cases h) h, o.put ht S⟩
/-! ### what is known of a packet -/
def fnd (f : Fd) (m : Mp) (k : K3) : List Nat := (findM (f.tw k.2.1) (f.tm k) (getM m k)).getD []
def opn (f : Fd) (m : Mp) (k : K3) : Bool := decide ((fnd f m k).length < f.tm k)
/-- all that has arrived is of the picture's codes -/
def MOk (f : Fd) (v : Pv) (m : Mp) : Prop := ∀ k, okKey f k → getM m k <+: cdM f v k
theorem prefix_find {f : Fd} (ok : f.Ok) (v : Pv) {k : K3} (hk : okKey f k) {c : List Nat} (hc : c <+: cdM f v k) : DomC (f.tw k.2.1) (f.tm k) c ∧ ∃ j, j ≤ f.tm k ∧ findM (f.tw k.2.1) (f.tm k) c = some ((bitsM f v k).take j) := by
  obtain ⟨_, hs, h4, h5, _⟩ := ok.tile hk.2.1
  have hs : (f.tw k.2.1, f.tm k) ∈ shapes := hs
  have hb : bitsM f v k ∈ bitsN (f.tm k) := mem_bitsN (bits_len f v k) (bits_sig f v k)
  have hl := hc.length_le
  have hc : c = (codeM (f.tw k.2.1) (bitsM f v k)).take c.length := List.prefix_iff_eq_take.mp hc
  have hm : c.length ∈ List.range ((codeM (f.tw k.2.1) (bitsM f v k)).length + 1) := List.mem_range.mpr (Nat.lt_succ_of_le hl)
  constructor
  · refine ⟨hs, ?_⟩
    unfold codesOf
    refine List.mem_flatMap.mpr ⟨bitsM f v k, hb, List.mem_map.mpr ⟨c.length, hm, hc.symm⟩⟩
  · obtain ⟨h1, _⟩ := find_ok (f.tw k.2.1, f.tm k) hs (bitsM f v k) hb
    obtain ⟨p, hp, h2⟩ := h1 c.length hm
    obtain ⟨j, hj, e⟩ := List.mem_map.mp hp
    have hj := List.mem_range.mp hj
    refine ⟨j, Nat.le_of_lt_succ hj, ?_⟩
    rw [e]
    have h2 : findM (f.tw k.2.1) (f.tm k) ((codeM (f.tw k.2.1) (bitsM f v k)).take c.length) = some p := h2
    rw [← hc] at h2
    exact h2
theorem full_find {f : Fd} (ok : f.Ok) (v : Pv) {k : K3} (hk : okKey f k) : findM (f.tw k.2.1) (f.tm k) (cdM f v k) = some (bitsM f v k) ∧ 1 ≤ (cdM f v k).length ∧ (cdM f v k).length ≤ 20 := by
  obtain ⟨_, hs, h4, h5, _⟩ := ok.tile hk.2.1
  have hb : bitsM f v k ∈ bitsN (f.tm k) := mem_bitsN (bits_len f v k) (bits_sig f v k)
  obtain ⟨_, h2, h3⟩ := find_ok (f.tw k.2.1, f.tm k) hs (bitsM f v k) hb
  exact ⟨h2, h3, ((bits_dom ok v hk).codel).1⟩
theorem fnd_of {f : Fd} (ok : f.Ok) (v : Pv) {m : Mp} {k : K3} (hk : okKey f k) (hc : getM m k <+: cdM f v k) : ∃ j, j ≤ f.tm k ∧ fnd f m k = (bitsM f v k).take j ∧ findM (f.tw k.2.1) (f.tm k) (getM m k) = some (fnd f m k) ∧ (fnd f m k).length = j := by
  obtain ⟨_, j, hj, e⟩ := prefix_find ok v hk hc
  have e2 : fnd f m k = (bitsM f v k).take j := by unfold fnd; rw [e]; rfl
  refine ⟨j, hj, e2, by rw [e2]; exact e, ?_⟩
  rw [e2, List.length_take, bits_len]
  omega
/-- an open packet has not arrived whole -/
theorem open_lt {f : Fd} (ok : f.Ok) (v : Pv) {m : Mp} {k : K3} (hk : okKey f k) (hc : getM m k <+: cdM f v k) (ho : opn f m k = true) : (getM m k).length < (cdM f v k).length := by
  have h1 := hc.length_le
  by_cases h : (getM m k).length = (cdM f v k).length
  · have e : getM m k = cdM f v k := List.IsPrefix.eq_of_length hc h
    have e2 : fnd f m k = bitsM f v k := by unfold fnd; rw [e, (full_find ok v hk).1]; rfl
    unfold opn at ho
    have ho := of_decide_eq_true ho
    rw [e2, bits_len] at ho
    omega
  · omega
/-- a packet that is not open is known whole -/
theorem closed_eq {f : Fd} (ok : f.Ok) (v : Pv) {m : Mp} {k : K3} (hk : okKey f k) (hc : getM m k <+: cdM f v k) (ho : opn f m k = false) : fnd f m k = bitsM f v k := by
  obtain ⟨j, hj, e, _, hl⟩ := fnd_of ok v hk hc
  unfold opn at ho
  have ho := of_decide_eq_false ho
  rw [e]
  refine List.take_of_length_le ?_
  rw [bits_len]
  omega
def remM (f : Fd) (v : Pv) (m : Mp) (k : K3) : Nat := if opn f m k = true then (cdM f v k).length - (getM m k).length else 0
def misM (f : Fd) (v : Pv) (m : Mp) : Nat := ((keysM f).map (remM f v m)).sum
def ansM (f : Fd) (v : Pv) : Nat → List En → List Pc
  | _, [] => []
  | left, e :: es =>
    (if ((cdM f v e.1).drop e.2).take left = [] then [] else [(e.1, e.2, ((cdM f v e.1).drop e.2).take left)]) ++
      (if (((cdM f v e.1).drop e.2).take left).length < ((cdM f v e.1).drop e.2).length then [] else ansM f v (left - (((cdM f v e.1).drop e.2).take left).length) es)
theorem sz4 : (4 : Nat) ≤ sizeLine := by decide
theorem KyV.putL {H H' : Hp} {t : Addr} {v : V} {k : K3} {xs : List V} (h : KyV H v k) (ht : H t = some (.lst xs)) (S : SameB t H H') : KyV H' v k := by
  obtain ⟨r, e, h⟩ := h
  exact ⟨r, e, S _ _ (fun q => by rw [q, ht] at h; cases h) h⟩

end PP
namespace PP
open PySem PySem.Spec PyProof.Rows L2
/-- a name's new value, in a state that is written out -/
local macro_rules | `(tactic| walk_at "set") => `(tactic| (simp only [List.set_cons_succ, List.set_cons_zero]; exact rfl))
local macro_rules | `(tactic| walk_at "start") => `(tactic| (refine g_start (σ' := ?sgm) ?hstart ?_; (case hstart => (simp only [start_eS, start_eN, start_e0]; exact rfl))))
/-- one step of a reading -/
local macro_rules | `(tactic| walk_at "g1") => `(tactic| first
  | ((with_reducible refine g_var (v := ?vv) ?hvv ?_); (case hvv => exact rfl))
  | ((with_reducible refine g_nxS (σ' := ?sgm) ?hset ?_); (case hset => walk_at "set"))
  | ((with_reducible refine g_gnameS (σ' := ?sgm) ?hset ?_); (case hset => walk_at "set"))
  | with_reducible first
    | refine g_c ?_
    | refine g_op ?_
    | refine g_I0 ?_
    | refine g_tst ?_
    | refine g_blc ?_
    | refine g_seq ?_
    | refine g_set ?_
    | refine g_ret ?_
    | refine g_if ?_
    | refine g_or ?_
    | refine g_not ?_
    | refine g_B ?_
    | refine g_cons ?_
    | refine g_nil ?_
    | refine g_call ?_
    | refine g_cb ?_
    | refine g_andV ?_
    | refine g_tup ?_
    | refine g_nx ?_
    | refine g_rt ?_
    | refine g_nxt ?_
    | refine g_asg ?_
    | refine g_for ?_
    | refine g_ilst ?_
    | refine g_chain ?_
    | refine g_gcons ?_
    | refine g_gnil ?_
    | refine g_true ?_
    | refine g_false ?_
    | refine g_nF ?_
    | refine g_dT (by omega) ?_
    | refine g_dF (by omega) ?_
    | refine g_ndF (by omega) ?_
  | with_reducible refine g_exR ?_)
local macro_rules | `(tactic| walk_at "go") => `(tactic| repeat (walk_at "g1"))
/-- if c: x = an int, joined -/
local macro_rules | `(tactic| walk_at "when") => `(tactic| (refine g_whenI (i0 := ?wj) (i1 := ?wi) ?wo ?wh ?_; (case wo => exact rfl); (case wh => (intro hw Q' hq; walk_at "go"; exact hq))))
/-- a heap that has only grown -/
local macro_rules | `(tactic| walk_at "same") => `(tactic| repeat (first | exact Same.refl _ | assumption | refine L2.Same.new ?_ (by assumption)))
/-- what stands at a place of a heap that has only grown -/
local macro_rules | `(tactic| walk_at "get") => `(tactic| repeat (first | exact upd_same | assumption | refine upd_get (by assumption) ?_))
def sp_is_rectangle : Sp := fun vs H Q _ => ∃ (g : Rg), vs = [.int g.l, .int g.t, .int g.w, .int g.h] ∧ g.Ok ∧ Q (.bl true) H
def sp_check_regions : Sp := fun vs H Q _ => ∃ (r : Addr) (gs : List Rg), vs = [.ref r] ∧ RgsAt H r gs ∧ Q .non H
def sp_touches (CF : Addr) : Sp := fun vs H Q _ => ∃ (f : Fd) (a r : Addr) (g : Rg) (i : Nat), vs = [.ref a, .ref r, .int i] ∧ FrAt CF H a f ∧ f.Ok ∧ i < f.tls ∧ H r = some (.tup [.int g.l, .int g.t, .int g.w, .int g.h]) ∧ ∀ b H', Same H H' → Q (.bl b) H'
def sp_boost (CF : Addr) : Sp := fun vs H Q _ => ∃ (f : Fd) (a r : Addr) (gs : List Rg) (i : Nat), vs = [.ref a, .ref r, .int i] ∧ FrAt CF H a f ∧ f.Ok ∧ i < f.tls ∧ RgsAt H r gs ∧ ∀ (n : Int) H', Same H H' → Q (.int n) H'
def sp_is_open (CF CA : Addr) : Sp := fun vs H Q _ => ∃ (a fr t : Addr) (f : Fd) (v : Pv) (m : Mp) (k : K3) (kv : V), vs = [.ref a, kv] ∧ ArAt CF CA H a fr t f m ∧ f.Ok ∧ KyV H kv k ∧ okKey f k ∧ getM m k <+: cdM f v k ∧ ∀ H', Same H H' → Q (.bl (opn f m k)) H'
def sp_missing (CF CA CP : Addr) : Sp := fun vs H Q _ => ∃ (a b fr t : Addr) (f : Fd) (v : Pv) (m : Mp), vs = [.ref a, .ref b] ∧ ArAt CF CA H a fr t f m ∧ PiAt CP H b f v ∧ f.Ok ∧ VOk f v ∧ MOk f v m ∧ ∀ H', Same H H' → Q (.int (misM f v m : Nat)) H'
def sp_check_requests (CF : Addr) : Sp := fun vs H Q _ => ∃ (f : Fd) (a r : Addr) (es : List En) (rs : List V), vs = [.ref a, .ref r] ∧ FrAt CF H a f ∧ f.Ok ∧ H r = some (.lst rs) ∧ Paired (EnV H) rs es ∧ (es.map (·.1)).Nodup ∧ es.length ≤ 1000 ∧ (∀ e ∈ es, okKey f e.1 ∧ e.2 ≤ 100) ∧ ∀ H', Same H H' → Q .non H'
def sp_check_asked (CF CP : Addr) : Sp := fun vs H Q _ => ∃ (f : Fd) (a b r : Addr) (v : Pv) (es : List En) (rs : List V), vs = [.ref a, .ref b, .ref r] ∧ FrAt CF H a f ∧ PiAt CP H b f v ∧ f.Ok ∧ H r = some (.lst rs) ∧ Paired (EnV H) rs es ∧ (es.map (·.1)).Nodup ∧ es.length ≤ 1000 ∧ (∀ e ∈ es, okKey f e.1 ∧ e.2 ≤ 100) ∧ ∀ H', Same H H' → Q .non H'
def sp_answer (CF CP : Addr) : Sp := fun vs H Q _ => ∃ (f : Fd) (a b r : Addr) (v : Pv) (es : List En) (rs : List V) (n : Nat), vs = [.ref a, .ref b, .ref r, .int n] ∧ FrAt CF H a f ∧ PiAt CP H b f v ∧ f.Ok ∧ VOk f v ∧ H r = some (.lst rs) ∧ Paired (EnV H) rs es ∧ (es.map (·.1)).Nodup ∧ es.length ≤ 1000 ∧ (∀ e ∈ es, okKey f e.1 ∧ e.2 ≤ 100) ∧ n ≤ 1000000 ∧
  ∀ D H' ps, Same H H' → H' D = some (.lst ps) → Paired (PcV H') ps (ansM f v n es) → Q (.ref D) H'
theorem mem_q {p : List Nat} {n : Nat} (h : ∀ x ∈ p, x = 48 ∨ x = 49) : decide (63 ∈ (tx (p ++ List.replicate n 63)).cps.toList) = decide (0 < n) := by
  rw [decide_eq_decide]
  show 63 ∈ p ++ List.replicate n 63 ↔ _
  rw [List.mem_append]
  constructor
  · rintro (q | q)
    · rcases h _ q with e | e <;> cases e
    · have := (List.mem_replicate.mp q).1
      omega
  · intro q
    exact .inr (List.mem_replicate.mpr ⟨by omega, rfl⟩)
section
variable {P : Program} {wd : World} {K : PySem.W.Frag} {mg : Str → Option Value} {base : Heap} {CF CA CP : Addr}

theorem sc_is_rectangle : FnScope ["left", "top", "width", "height"] ["left", "top", "width", "height"] (defScope s_is_rectangle) := ⟨rfl, rfl, rfl, by decide +kernel, rfl, by decide +kernel, by decide +kernel⟩
theorem cal_is_rectangle (T : Tx K mg CF CA CP) : Cal P wd K mg base 1 "_is_rectangle" ["left", "top", "width", "height"] sp_is_rectangle := by
  refine T.cal (d := d_is_rectangle) 54 rfl sc_is_rectangle (fun _ _ _ _ _ _ us hl => match us, hl with | [_, _, _, _], _ => rfl) (fun vs H Q E h => ?_) (fun f cdv A outer s H vs Q E hr h => ?_)
  · obtain ⟨g, rfl, _⟩ := h
    rfl
  · obtain ⟨g, rfl, ok, k⟩ := h
    refine ⟨_, (pss_cons (ps_if (PW.pt (pw_or (pt_not (pt_chain op_le op_lt pe_int (pv 0) (pe_gi (T.nums 29 _ _ rfl)))) (pw_or1 (pt_not (pt_chain op_le op_lt pe_int (pv 1) (pe_gi (T.nums 29 _ _ rfl)))))))
      (pss_one (ps_ret pe_bl))
      pss_nil)
      (pss_one (ps_ret (pe_and (pe_chain op_le op_le pe_int (pv 2) (pe_gi (T.nums 29 _ _ rfl))) (pe_one (pe_chain op_le op_le pe_int (pv 3) (pe_gi (T.nums 29 _ _ rfl)))))))), ?_⟩
    walk_at "start"
    have h1 := ok.l; have h2 := ok.t; have h3 := ok.w; have h4 := ok.h
    walk_at "go"
    have e : decide ((g.h : Int) ≤ 64) = true := decide_eq_true (by omega)
    rw [e]
    exact k
theorem sc_check_regions : FnScope ["regions", "left", "top", "width", "height", "ahead"] ["regions"] (defScope s_check_regions) := ⟨rfl, rfl, rfl, by decide +kernel, rfl, by decide +kernel, by decide +kernel⟩
theorem cal_check_regions (T : Tx K mg CF CA CP) : Cal P wd K mg base 2 "check_regions" ["regions"] sp_check_regions := by
  refine T.cal (d := d_check_regions) 55 rfl sc_check_regions (fun _ _ _ _ _ _ us hl => match us, hl with | [_], _ => rfl) (fun vs H Q E h => ?_) (fun f cdv A outer s H vs Q E hr h => ?_)
  · obtain ⟨r, gs, rfl, _⟩ := h
    rfl
  · obtain ⟨r, gs, rfl, hR, k⟩ := h
    refine ⟨_, (pss_cons (ps_if (pt_cmpR op_gt (pe_callB (call_len_seqK (K := K)) (by rfl) (T.nof _ (fre_len)) PySem.boot_len (pa_cons (pv 0) pa_nil)) (pe_gi (T.nums 52 _ _ rfl)) (nomark _))
      pss_never
      pss_nil)
      (pss_one (ps_for PassesOwn.never rfl (pi_listK (K := K) (pv 0)) (pg_tupK (K := K) (n := 5) (by rfl) (pgs_cons (pg_name (i := 1) sc_check_regions.nd rfl (by first | exact Or.inl rfl | exact Or.inr rfl)) (pgs_cons (pg_name (i := 2) sc_check_regions.nd rfl (by first | exact Or.inl rfl | exact Or.inr rfl)) (pgs_cons (pg_name (i := 3) sc_check_regions.nd rfl (by first | exact Or.inl rfl | exact Or.inr rfl)) (pgs_cons (pg_name (i := 4) sc_check_regions.nd rfl (by first | exact Or.inl rfl | exact Or.inr rfl)) (pgs_cons (pg_name (i := 5) sc_check_regions.nd rfl (by first | exact Or.inl rfl | exact Or.inr rfl)) pgs_nil))))))
      (pss_one (ps_if (PW.pt (pw_or (pt_not (pt_val (pe_cal (cal_is_rectangle T) hr (pa_cons (pv 1) (pa_cons (pv 2) (pa_cons (pv 3) (pa_cons (pv 4) pa_nil))))))) (pw_or1 (pt_not (pt_chain op_le op_le pe_int (pv 5) (pe_gi (T.nums 53 _ _ rfl)))))))
      pss_never
      pss_nil))))), ?_⟩
    walk_at "start"
    obtain ⟨rs, hr1, hrs, hl⟩ := hR
    walk_at "go"
    refine ⟨r, rs, rfl, .inl (SqL.of hr1), ?_⟩
    rw [hrs.length]
    walk_at "go"
    refine ⟨⟨_, SqL.of hr1⟩, ?_⟩
    refine g_forV (fun i σ H' => H' = H ∧ ∃ e1 e2 e3 e4 e5, σ = [some (.ref r), e1, e2, e3, e4, e5]) (itv_l r rs) (fun i σ H' h => by rw [h.1]; exact SqL.of hr1) ⟨rfl, none, none, none, none, none, rfl⟩ (fun i σ H' hi h => ?_) (fun σ H' h => ?_)
    · obtain ⟨e0, e1, e2, e3, e4, e5, e⟩ := h
      subst e0 e
      rw [hrs.length] at hi
      obtain ⟨b, eb, hb, ok⟩ := pair_at (d := V.non) hrs hi
      have h1 := ok.a
      rw [eb]
      refine g_gtup (SqT.of hb) rfl ?_
      walk_at "go"
      refine ⟨gs[i], rfl, ok, ?_⟩
      walk_at "go"
      exact ⟨rfl, _, _, _, _, _, rfl⟩
    · obtain ⟨e0, e1, e2, e3, e4, e5, e⟩ := h
      subst e0 e
      walk_at "go"
      exact k
theorem sc_touches : FnScope ["frame", "rectangle", "tile", "left", "top", "width", "height", "tile_left", "tile_top", "tile_width", "tile_height"] ["frame", "rectangle", "tile"] (defScope s_touches) := ⟨rfl, rfl, rfl, by decide +kernel, rfl, by decide +kernel, by decide +kernel⟩
theorem cal_touches (T : Tx K mg CF CA CP) : Cal P wd K mg base 4 "touches" ["frame", "rectangle", "tile"] (sp_touches CF) := by
  refine T.cal (d := d_touches) 56 rfl sc_touches (fun _ _ _ _ _ _ us hl => match us, hl with | [_, _, _], _ => rfl) (fun vs H Q E h => ?_) (fun f cdv A outer s H vs Q E hr h => ?_)
  · obtain ⟨f, a, r, g, i, rfl, _⟩ := h
    rfl
  · obtain ⟨f, a, r, g, i, rfl, hF, ok, hi, hr1, k⟩ := h
    refine ⟨_, (pss_cons (ps_asg (pv 1) (pg_tupK (K := K) (n := 4) (by rfl) (pgs_cons (pg_name (i := 3) sc_touches.nd rfl (by first | exact Or.inl rfl | exact Or.inr rfl)) (pgs_cons (pg_name (i := 4) sc_touches.nd rfl (by first | exact Or.inl rfl | exact Or.inr rfl)) (pgs_cons (pg_name (i := 5) sc_touches.nd rfl (by first | exact Or.inl rfl | exact Or.inr rfl)) (pgs_cons (pg_name (i := 6) sc_touches.nd rfl (by first | exact Or.inl rfl | exact Or.inr rfl)) pgs_nil))))))
      (pss_cons (ps_asg (pe_cal (cal_tile_corner T) hr (pa_cons (pv 0) (pa_cons (pv 2) pa_nil))) (pg_tupK (K := K) (n := 2) (by rfl) (pgs_cons (pg_name (i := 7) sc_touches.nd rfl (by first | exact Or.inl rfl | exact Or.inr rfl)) (pgs_cons (pg_name (i := 8) sc_touches.nd rfl (by first | exact Or.inl rfl | exact Or.inr rfl)) pgs_nil))))
      (pss_cons (ps_asg (pe_cal (cal_tile_size T) hr (pa_cons (pv 0) (pa_cons (pv 2) pa_nil))) (pg_tupK (K := K) (n := 2) (by rfl) (pgs_cons (pg_name (i := 9) sc_touches.nd rfl (by first | exact Or.inl rfl | exact Or.inr rfl)) (pgs_cons (pg_name (i := 10) sc_touches.nd rfl (by first | exact Or.inl rfl | exact Or.inr rfl)) pgs_nil))))
      (pss_cons (ps_if (pt_cmpR op_ge (pe_callB (call_max2 rfl) (by rfl) (T.nof _ (fre_max)) (by decide +kernel) (pa_cons (pv 3) (pa_cons (pv 7) pa_nil))) (pe_callB (call_min2 rfl) (by rfl) (T.nof _ (fre_min)) (by decide +kernel) (pa_cons (pe_op op_add (pv 3) (pv 5)) (pa_cons (pe_op op_add (pv 7) (pv 9)) pa_nil))) (nomark _))
      (pss_one (ps_ret pe_bl))
      pss_nil)
      (pss_one (ps_ret (pe_cmpR op_lt (pe_callB (call_max2 rfl) (by rfl) (T.nof _ (fre_max)) (by decide +kernel) (pa_cons (pv 4) (pa_cons (pv 8) pa_nil))) (pe_callB (call_min2 rfl) (by rfl) (T.nof _ (fre_min)) (by decide +kernel) (pa_cons (pe_op op_add (pv 4) (pv 6)) (pa_cons (pe_op op_add (pv 8) (pv 10)) pa_nil))) (nomark _)))))))), ?_⟩
    walk_at "start"
    walk_at "go"
    refine g_gtup (SqT.of hr1) rfl ?_
    walk_at "go"
    refine ⟨f, a, i, rfl, hF, ok, hi, fun T1 H1 S1 hT1 => ?_⟩
    refine g_gtup (SqT.of hT1) rfl ?_
    walk_at "go"
    refine ⟨f, a, i, rfl, hF.up S1, ok, hi, fun T2 H2 S2 hT2 => ?_⟩
    refine g_gtup (SqT.of hT2) rfl ?_
    walk_at "go"
    refine ⟨_, _, rfl, ?_⟩
    walk_at "go"
    refine ⟨_, _, rfl, ?_⟩
    walk_at "go"
    refine g_ite (fun e => ?_) (fun e => ?_)
    · walk_at "go"
      exact k _ _ (S1.trans S2)
    · walk_at "go"
      refine ⟨_, _, rfl, ?_⟩
      walk_at "go"
      refine ⟨_, _, rfl, ?_⟩
      walk_at "go"
      exact k _ _ (S1.trans S2)
theorem sc_boost : FnScope ["frame", "regions", "tile", "most", "left", "top", "width", "height", "ahead"] ["frame", "regions", "tile"] (defScope s_boost) := ⟨rfl, rfl, rfl, by decide +kernel, rfl, by decide +kernel, by decide +kernel⟩
theorem cal_boost (T : Tx K mg CF CA CP) : Cal P wd K mg base 5 "boost" ["frame", "regions", "tile"] (sp_boost CF) := by
  refine T.cal (d := d_boost) 57 rfl sc_boost (fun _ _ _ _ _ _ us hl => match us, hl with | [_, _, _], _ => rfl) (fun vs H Q E h => ?_) (fun f cdv A outer s H vs Q E hr h => ?_)
  · obtain ⟨f, a, r, gs, i, rfl, _⟩ := h
    rfl
  · obtain ⟨f, a, r, gs, i, rfl, hF, ok, hi, hR, k⟩ := h
    refine ⟨_, (pss_cons (ps_set (i := 3) sc_boost.nd rfl (by first | exact Or.inl rfl | exact Or.inr rfl) pe_int)
      (pss_cons (ps_for PassesOwn.never rfl (pi_listK (K := K) (pv 1)) (pg_tupK (K := K) (n := 5) (by rfl) (pgs_cons (pg_name (i := 4) sc_boost.nd rfl (by first | exact Or.inl rfl | exact Or.inr rfl)) (pgs_cons (pg_name (i := 5) sc_boost.nd rfl (by first | exact Or.inl rfl | exact Or.inr rfl)) (pgs_cons (pg_name (i := 6) sc_boost.nd rfl (by first | exact Or.inl rfl | exact Or.inr rfl)) (pgs_cons (pg_name (i := 7) sc_boost.nd rfl (by first | exact Or.inl rfl | exact Or.inr rfl)) (pgs_cons (pg_name (i := 8) sc_boost.nd rfl (by first | exact Or.inl rfl | exact Or.inr rfl)) pgs_nil))))))
      (pss_one (ps_if (pt_val (pe_cal (cal_touches T) hr (pa_cons (pv 0) (pa_cons (pe_tup (pa_cons (pv 4) (pa_cons (pv 5) (pa_cons (pv 6) (pa_cons (pv 7) pa_nil))))) (pa_cons (pv 2) pa_nil)))))
      (pss_one (ps_set (i := 3) sc_boost.nd rfl (by first | exact Or.inl rfl | exact Or.inr rfl) (pe_callB (call_max2 rfl) (by rfl) (T.nof _ (fre_max)) (by decide +kernel) (pa_cons (pv 3) (pa_cons (pv 8) pa_nil)))))
      pss_nil)))
      (pss_one (ps_ret (pv 3))))), ?_⟩
    walk_at "start"
    obtain ⟨rs, hr1, hrs, hl⟩ := hR
    walk_at "go"
    refine ⟨⟨_, SqL.of hr1⟩, ?_⟩
    refine g_forV (fun j σ H' => Same H H' ∧ ∃ (n : Int) (e1 e2 e3 e4 e5 : Option V), σ = [some (.ref a), some (.ref r), some (.int i), some (.int n), e1, e2, e3, e4, e5]) (itv_l r rs) (fun j σ H' h => h.1.seq (SqL.of hr1)) ⟨Same.refl _, 0, none, none, none, none, none, rfl⟩ (fun j σ H' hj h => ?_) (fun σ H' h => ?_)
    · obtain ⟨S, n, e1, e2, e3, e4, e5, e⟩ := h
      subst e
      rw [hrs.length] at hj
      obtain ⟨b, eb, hb, okg⟩ := pair_at (d := V.non) hrs hj
      rw [eb]
      refine g_gtup (SqT.of (S _ _ hb)) rfl ?_
      walk_at "go"
      refine ⟨sz4, fun p hp => ?_⟩
      walk_at "go"
      refine ⟨f, a, p, gs[j], i, rfl, (hF.up S).up (same_new hp), ok, hi, upd_same, fun bb H2 S2 => ?_⟩
      have S3 := (S.new hp).trans S2
      walk_at "go"
      cases bb with
      | true =>
        walk_at "go"
        refine ⟨_, _, rfl, ?_⟩
        walk_at "go"
        exact ⟨S3, _, _, _, _, _, _, rfl⟩
      | false =>
        walk_at "go"
        exact ⟨S3, _, _, _, _, _, _, rfl⟩
    · obtain ⟨S, n, e1, e2, e3, e4, e5, e⟩ := h
      subst e
      walk_at "go"
      exact k _ _ S
theorem sc_is_open : FnScope ["arrived", "key"] ["arrived", "key"] (defScope s_is_open) := ⟨rfl, rfl, rfl, by decide +kernel, rfl, by decide +kernel, by decide +kernel⟩
theorem cal_is_open (T : Tx K mg CF CA CP) : Cal P wd K mg base 10 "is_open" ["arrived", "key"] (sp_is_open CF CA) := by
  refine T.cal (d := d_is_open) 60 rfl sc_is_open (fun _ _ _ _ _ _ us hl => match us, hl with | [_, _], _ => rfl) (fun vs H Q E h => ?_) (fun f cdv A outer s H vs Q E hr h => ?_)
  · obtain ⟨a, fr, t, f, v, m, ky, kv, rfl, _⟩ := h
    rfl
  · obtain ⟨a, fr, t, f, v, m, ky, kv, rfl, hA, ok, hk, hok, hc, k⟩ := h
    refine ⟨_, (pss_one (ps_ret (pe_cmpR op_in_sign (pe_tx txq) (pe_cal (cal_known_text T) hr (pa_cons (pv 0) (pa_cons (pv 1) pa_nil))) rfl))), ?_⟩
    walk_at "start"
    obtain ⟨hd, _⟩ := prefix_find ok v hok hc
    obtain ⟨j, hj, e1, e2, e3⟩ := fnd_of ok v hok hc
    walk_at "go"
    refine ⟨a, fr, t, f, m, ky, kv, fnd f m ky, rfl, hA, ok, hk, hok, hd, e2, by omega, fun H1 S1 => ?_⟩
    walk_at "go"
    refine ⟨63, _, rfl, rfl, ?_⟩
    rw [mem_q (fun x hx => bits_sig f v ky x (by rw [e1] at hx; exact List.mem_of_mem_take hx))]
    have e : decide (0 < f.tm ky - (fnd f m ky).length) = opn f m ky := by
      unfold opn
      rw [decide_eq_decide]
      omega
    rw [e]
    exact k H1 S1
end

end PP
namespace PP
open PySem PySem.Spec PyProof.Rows L2
/-- a name's new value, in a state that is written out -/
local macro_rules | `(tactic| walk_at "set") => `(tactic| (simp only [List.set_cons_succ, List.set_cons_zero]; exact rfl))
local macro_rules | `(tactic| walk_at "start") => `(tactic| (refine g_start (σ' := ?sgm) ?hstart ?_; (case hstart => (simp only [start_eS, start_eN, start_e0]; exact rfl))))
/-- one step of a reading -/
local macro_rules | `(tactic| walk_at "g1") => `(tactic| first
  | ((with_reducible refine g_var (v := ?vv) ?hvv ?_); (case hvv => exact rfl))
  | ((with_reducible refine g_nxS (σ' := ?sgm) ?hset ?_); (case hset => walk_at "set"))
  | ((with_reducible refine g_gnameS (σ' := ?sgm) ?hset ?_); (case hset => walk_at "set"))
  | with_reducible first
    | refine g_c ?_
    | refine g_op ?_
    | refine g_I0 ?_
    | refine g_tst ?_
    | refine g_blc ?_
    | refine g_seq ?_
    | refine g_set ?_
    | refine g_ret ?_
    | refine g_if ?_
    | refine g_not ?_
    | refine g_neT ?_
    | refine g_B ?_
    | refine g_cons ?_
    | refine g_nil ?_
    | refine g_call ?_
    | refine g_cb ?_
    | refine g_fldC ?_
    | refine g_met ?_
    | refine g_meA (by assumption) rfl ?_
    | refine g_arf (by assumption) (by assumption) ?_
    | refine g_dput ?_
    | refine g_drop ?_
    | refine g_tup ?_
    | refine g_lst ?_
    | refine g_nx ?_
    | refine g_rt ?_
    | refine g_nxt ?_
    | refine g_for ?_
    | refine g_ilst ?_
    | refine g_chain ?_
    | refine g_gcons ?_
    | refine g_gnil ?_
    | refine g_slS ?_
    | refine g_noP ?_
    | refine g_part ?_
    | refine g_false ?_
    | refine g_nF ?_
    | refine g_dT (by omega) ?_
    | refine g_ndF (by omega) ?_
  | ((with_reducible refine ⟨tx _, rfl, sz_tx ?hzt, ?_⟩); (case hzt => first | omega | (simp only [List.length_nil, List.length_cons, List.length_append]; omega)); rw [tx_len])
  | with_reducible refine g_exI ?_
  | with_reducible refine g_exR ?_)
local macro_rules | `(tactic| walk_at "go") => `(tactic| repeat (walk_at "g1"))
/-- if c: x = an int, joined -/
local macro_rules | `(tactic| walk_at "when") => `(tactic| (refine g_whenI (i0 := ?wj) (i1 := ?wi) ?wo ?wh ?_; (case wo => exact rfl); (case wh => (intro hw Q' hq; walk_at "go"; exact hq))))
/-- a heap that has only grown -/
local macro_rules | `(tactic| walk_at "same") => `(tactic| repeat (first | exact Same.refl _ | assumption | refine L2.Same.new ?_ (by assumption)))
/-- what stands at a place of a heap that has only grown -/
local macro_rules | `(tactic| walk_at "get") => `(tactic| repeat (first | exact upd_same | assumption | refine upd_get (by assumption) ?_))
theorem ansM_cons (f : Fd) (v : Pv) (n : Nat) (e : En) (es : List En) : ansM f v n (e :: es) = (if ((cdM f v e.1).drop e.2).take n = [] then [] else [(e.1, e.2, ((cdM f v e.1).drop e.2).take n)]) ++
      (if (((cdM f v e.1).drop e.2).take n).length < ((cdM f v e.1).drop e.2).length then [] else ansM f v (n - (((cdM f v e.1).drop e.2).take n).length) es) := rfl
theorem valV_none {κ : Type} [DecidableEq κ] {kvs : List (κ × V)} {k : κ} (h : k ∉ kvs.map (·.1)) : valV kvs k = none := by
  unfold valV
  have : kvs.find? (fun kv => decide (kv.1 = k)) = none := by
    rw [List.find?_eq_none]
    intro x hx e
    exact h (List.mem_map.mpr ⟨x, hx, of_decide_eq_true e⟩)
  rw [this]
  rfl
theorem putK_new {κ : Type} [DecidableEq κ] {kvs : List (κ × V)} {k : κ} {v : V} (h : k ∉ kvs.map (·.1)) : putK kvs k v = kvs ++ [(k, v)] := by
  unfold putK
  rw [if_neg]
  intro q
  rw [List.any_eq_true] at q
  obtain ⟨x, hx, e⟩ := q
  exact h (List.mem_map.mpr ⟨x, hx, of_decide_eq_true e⟩)
theorem g_din {σ : L2.St} {H : Hp} {Q : VK} {ty td : TE} (q : ty σ H fun y H1 => td σ H1 fun x H2 => ∃ a o, x = .ref a ∧ DGet H2 a y o ∧ Q (.bl o.isSome) H2) : tDIn ty td σ H Q := q
theorem PcV.putL {H H' : Hp} {t : Addr} {v : V} {e : Pc} {xs : List V} (h : PcV H v e) (ht : H t = some (.lst xs)) (S : SameB t H H') : PcV H' v e := by
  obtain ⟨r, kr, q, h, o⟩ := h
  exact ⟨r, kr, q, S _ _ (fun q => by rw [q, ht] at h; cases h) h, o.putL ht S⟩
theorem g_bm {σ : L2.St} {H : Hp} {Q : VK} {K : PySem.W.Frag} {T : String} {r : V → List V → Hp → VK → Prop} {to : TE} {t : TA} (q : to σ H fun x H1 => tyV K T x H1 ∧ t σ H1 fun xs H2 => r x xs H2 Q) : tBM K T r to t σ H Q := q
section
variable {P : Program} {wd : World} {K : PySem.W.Frag} {mg : Str → Option Value} {base : Heap} {CF CA CP : Addr}

theorem sc_missing : FnScope ["arrived", "picture", "count", "key"] ["arrived", "picture"] (defScope s_missing) := ⟨rfl, rfl, rfl, by decide +kernel, rfl, by decide +kernel, by decide +kernel⟩
theorem cal_missing (T : Tx K mg CF CA CP) : Cal P wd K mg base 11 "missing" ["arrived", "picture"] (sp_missing CF CA CP) := by
  refine T.cal (d := d_missing) 65 rfl sc_missing (fun _ _ _ _ _ _ us hl => match us, hl with | [_, _], _ => rfl) (fun vs H Q E h => ?_) (fun f cdv A outer s H vs Q E hr h => ?_)
  · obtain ⟨a, b, fr, t, f, v, m, rfl, _⟩ := h
    rfl
  · obtain ⟨a, b, fr, t, f, v, m, rfl, hA, hP, ok, hv, hm, k⟩ := h
    refine ⟨_, (pss_cons (ps_set (i := 2) sc_missing.nd rfl (by first | exact Or.inl rfl | exact Or.inr rfl) pe_int)
      (pss_cons (ps_for PassesOwn.never rfl (pi_listK (K := K) (pe_cal (cal_all_keys T) hr (pa_cons (pe_fldK (K := K) (pv 0) rfl) pa_nil))) (pg_name (i := 3) sc_missing.nd rfl (by first | exact Or.inl rfl | exact Or.inr rfl))
      (pss_one (ps_if (pt_val (pe_cal (cal_is_open T) hr (pa_cons (pv 0) (pa_cons (pv 3) pa_nil))))
      (pss_one (ps_set (i := 2) sc_missing.nd rfl (by first | exact Or.inl rfl | exact Or.inr rfl) (pe_op op_sub (pe_op op_add (pv 2) (pe_callB call_len_str (by rfl) (T.nof _ (fre_len)) PySem.boot_len (pa_cons (pe_cal (cal_packet_code T) hr (pa_cons (pe_fldK (K := K) (pv 0) rfl) (pa_cons (pv 1) (pa_cons (pv 3) pa_nil)))) pa_nil))) (pe_callB call_len_str (by rfl) (T.nof _ (fre_len)) PySem.boot_len (pa_cons (pe_mcal T.cA.cl (mcal_Arrived_digits T) hr (pv 0) (pa_cons (pv 3) pa_nil)) pa_nil)))))
      pss_nil)))
      (pss_one (ps_ret (pv 2))))), ?_⟩
    walk_at "start"
    have hAo := hA.o; have hF := hA.f; have hT := hA.t
    walk_at "go"
    refine ⟨f, fr, rfl, hF, ok, fun D H1 rs S1 hD hks => ?_⟩
    walk_at "go"
    refine ⟨⟨_, SqL.of hD⟩, ?_⟩
    refine g_forV (fun i σ H' => Same H1 H' ∧ ∃ e3, σ = [some (.ref a), some (.ref b), some (.int ((((keysM f).map (remM f v m)).take i).sum : Nat)), e3]) (itv_l D rs) (fun i σ H' h => h.1.seq (SqL.of hD)) ⟨Same.refl _, none, rfl⟩ (fun i σ H' hi h => ?_) (fun σ H' h => ?_)
    · obtain ⟨S, e3, e⟩ := h
      subst e
      rw [hks.length] at hi
      have hk := pair_at (d := V.non) hks hi
      have hok := mem_keysM.mp (List.getElem_mem hi)
      generalize hkk : (keysM f)[i] = ky at hk hok
      generalize rs.getD i .non = kv at hk
      have es : ((((keysM f).map (remM f v m)).take (i + 1)).sum) = (((keysM f).map (remM f v m)).take i).sum + remM f v m ky := by
        rw [List.take_succ_eq_append_getElem (by rw [List.length_map]; exact hi), List.sum_append, List.getElem_map, hkk]
        simp
      have hc := hm ky hok
      have S2 := S1.trans S
      have hk := hk.up S
      have hA' := hA.up S2
      have hAo := hA'.o; have hF := hA'.f; have hT := hA'.t
      walk_at "go"
      refine ⟨a, fr, t, f, v, m, ky, kv, rfl, hA', ok, hk, hok, hc, fun H3 S3 => ?_⟩
      have hA3 := hA'.up S3
      have hAo := hA3.o; have hF := hA3.f; have hT := hA3.t
      walk_at "go"
      refine g_ite (fun ho => ?_) (fun ho => ?_)
      · have hlt := open_lt ok v hok hc ho
        have h20 := (full_find ok v hok).2.2
        walk_at "go"
        refine ⟨f, fr, b, v, ky, kv, rfl, hF, hP.up (S2.trans S3), ok, hv, hk.up S3, hok, fun H4 S4 => ?_⟩
        have hA4 := hA3.up S4
        have hAo := hA4.o; have hF := hA4.f; have hT := hA4.t
        walk_at "go"
        refine ⟨a, fr, t, f, m, ky, kv, rfl, hA4, ok, (hk.up S3).up S4, hok, ?_⟩
        walk_at "go"
        refine ⟨(S.trans S3).trans S4, some kv, ?_⟩
        rw [es]
        unfold remM
        rw [if_pos ho]
        congr 4
        congr 1
        omega
      · walk_at "go"
        refine ⟨S.trans S3, some kv, ?_⟩
        rw [es]
        unfold remM
        rw [if_neg (by rw [ho]; decide)]
        rfl
    · obtain ⟨S, e3, e⟩ := h
      subst e
      rw [hks.length, List.take_of_length_le (by rw [List.length_map]; exact Nat.le_refl _)]
      walk_at "go"
      exact k _ (S1.trans S)
theorem sc_check_requests : FnScope ["frame", "requests", "seen", "key", "start"] ["frame", "requests"] (defScope s_check_requests) := ⟨rfl, rfl, rfl, by decide +kernel, rfl, by decide +kernel, by decide +kernel⟩
theorem cal_check_requests (T : Tx K mg CF CA CP) : Cal P wd K mg base 4 "check_requests" ["frame", "requests"] (sp_check_requests CF) := by
  refine T.cal (d := d_check_requests) 62 rfl sc_check_requests (fun _ _ _ _ _ _ us hl => match us, hl with | [_, _], _ => rfl) (fun vs H Q E h => ?_) (fun f cdv A outer s H vs Q E hr h => ?_)
  · obtain ⟨f, a, r, es, rs, rfl, _⟩ := h
    rfl
  · obtain ⟨f, a, r, es, rs, rfl, hF, ok, hr1, hrs, hnd, hl, hes, k⟩ := h
    have hu := hu_of hr
    refine ⟨_, (pss_cons (ps_set (i := 2) sc_check_requests.nd rfl (by first | exact Or.inl rfl | exact Or.inr rfl) pe_dnewT)
      (pss_one (ps_for PassesOwn.never rfl (pi_listK (K := K) (pv 1)) (pg_tupK (K := K) (n := 2) (by rfl) (pgs_cons (pg_name (i := 3) sc_check_requests.nd rfl (by first | exact Or.inl rfl | exact Or.inr rfl)) (pgs_cons (pg_name (i := 4) sc_check_requests.nd rfl (by first | exact Or.inl rfl | exact Or.inr rfl)) pgs_nil)))
      (pss_cons (ps_expr (pe_cal (cal_check_key T) hr (pa_cons (pv 0) (pa_cons (pv 3) pa_nil))))
      (pss_cons (ps_if (pt_not (pt_chain op_le op_le pe_int (pv 4) (pe_gi (T.nums 41 _ _ rfl))))
      pss_never
      pss_nil)
      (pss_cons (ps_if (pt_cmp (pc_din hu (pv 3) (pv 2)))
      pss_never
      pss_nil)
      (pss_one (ps_dput hu (pv 2) (pv 3) pe_bl rfl)))))))), ?_⟩
    walk_at "start"
    walk_at "go"
    intro t ht
    walk_at "go"
    refine ⟨⟨_, SqL.of (upd_get ht hr1)⟩, ?_⟩
    refine g_forV (fun i σ H' => Same H H' ∧ (∃ kvs, H' t = some (.dT kvs) ∧ kvs.map (·.1) = (es.take i).map fun e => encK e.1) ∧ ∃ e3 e4, σ = [some (.ref a), some (.ref r), some (.ref t), e3, e4]) (itv_l r rs) (fun i σ H' h => h.1.seq (SqL.of hr1)) ⟨same_new ht, ⟨[], upd_same, rfl⟩, none, none, rfl⟩ (fun i σ H' hi h => ?_) (fun σ H' h => ?_)
    · obtain ⟨S, ⟨kvs, ht', hkv⟩, e3, e4, e⟩ := h
      subst e
      rw [hrs.length] at hi
      obtain ⟨q, kr, eq, hq, hky⟩ := pair_at (d := V.non) hrs hi
      obtain ⟨hok, h100⟩ := hes _ (List.getElem_mem hi)
      obtain ⟨rk, ek, hrk⟩ := id hky
      subst ek
      rw [eq]
      have hF := hF.up S
      refine g_gtup (SqT.of (S _ _ hq)) rfl ?_
      walk_at "go"
      refine ⟨f, a, es[i].1, _, rfl, hF, ok, hky.up S, hok, ?_⟩
      walk_at "go"
      have hnew : encK es[i].1 ∉ kvs.map (·.1) := by
        rw [hkv]
        intro hmem
        obtain ⟨e, he, ee⟩ := List.mem_map.mp hmem
        have ee := encK_inj.mp ee
        obtain ⟨j, hj, ej⟩ := List.getElem_of_mem he
        rw [List.length_take] at hj
        rw [List.getElem_take] at ej
        have hj' : j < es.length := by omega
        have := (List.nodup_iff_pairwise_ne.mp hnd)
        rw [List.pairwise_iff_getElem] at this
        refine this j i (by rw [List.length_map]; omega) (by rw [List.length_map]; omega) (by omega) ?_
        rw [List.getElem_map, List.getElem_map, ej]
        exact ee
      have hgt := DGet.t (k := encK es[i].1) ht' (S _ _ hrk)
      rw [valV_none hnew] at hgt
      refine g_din ?_
      walk_at "go"
      refine ⟨t, none, rfl, hgt, ?_⟩
      show ∃ k, V.bl false = V.bl k ∧ _
      walk_at "go"
      refine ⟨t, _, rfl, DPut.t (k := encK es[i].1) ht' (S _ _ hrk) (lt_sz ?_), ?_⟩
      · have := congrArg List.length hkv
        rw [List.length_map, List.length_map, List.length_take] at this
        omega
      · rw [putK_new hnew]
        walk_at "go"
        refine ⟨S.set ht, ⟨_, upd_same, ?_⟩, _, _, rfl⟩
        rw [List.map_append, hkv, List.take_succ_eq_append_getElem hi, List.map_append]
        rfl
    · obtain ⟨S, _, e3, e4, e⟩ := h
      subst e
      walk_at "go"
      exact k _ S

theorem sc_check_asked : FnScope ["frame", "picture", "requests"] ["frame", "picture", "requests"] (defScope s_check_asked) := ⟨rfl, rfl, rfl, by decide +kernel, rfl, by decide +kernel, by decide +kernel⟩
theorem cal_check_asked (T : Tx K mg CF CA CP) : Cal P wd K mg base 5 "check_asked" ["frame", "picture", "requests"] (sp_check_asked CF CP) := by
  refine T.cal (d := d_check_asked) 63 rfl sc_check_asked (fun _ _ _ _ _ _ us hl => match us, hl with | [_, _, _], _ => rfl) (fun vs H Q E h => ?_) (fun f cdv A outer s H vs Q E hr h => ?_)
  · obtain ⟨f, a, b, r, v, es, rs, rfl, _⟩ := h
    rfl
  · obtain ⟨f, a, b, r, v, es, rs, rfl, hF, hP, ok, hr1, hrs, hnd, hl, hes, k⟩ := h
    refine ⟨_, (pss_cons (ps_if (pt_not (pt_val (pe_cal (cal_fits_frame T) hr (pa_cons (pv 0) (pa_cons (pv 1) pa_nil)))))
      pss_never
      pss_nil)
      (pss_one (ps_expr (pe_cal (cal_check_requests T) hr (pa_cons (pv 0) (pa_cons (pv 2) pa_nil)))))), ?_⟩
    walk_at "start"
    obtain ⟨rp, hO, hR⟩ := id hP
    walk_at "go"
    refine ⟨f, a, b, v, rfl, hF, hP, ?_⟩
    walk_at "go"
    exact ⟨f, a, r, es, rs, rfl, hF, ok, hr1, hrs, hnd, hl, hes, k⟩
theorem sc_answer : FnScope ["frame", "picture", "requests", "count", "pieces", "left", "key", "start", "rest", "part"] ["frame", "picture", "requests", "count"] (defScope s_answer) := ⟨rfl, rfl, rfl, by decide +kernel, rfl, by decide +kernel, by decide +kernel⟩
theorem cal_answer (T : Tx K mg CF CA CP) : Cal P wd K mg base 7 "answer" ["frame", "picture", "requests", "count"] (sp_answer CF CP) := by
  refine T.cal (d := d_answer) 64 rfl sc_answer (fun _ _ _ _ _ _ us hl => match us, hl with | [_, _, _, _], _ => rfl) (fun vs H Q E h => ?_) (fun f cdv A outer s H vs Q E hr h => ?_)
  · obtain ⟨f, a, b, r, v, es, rs, n, rfl, _⟩ := h
    rfl
  · obtain ⟨f, a, b, r, v, es, rs, n, rfl, hF, hP, ok, hv, hr1, hrs, hnd, hl, hes, hn, k⟩ := h
    refine ⟨_, (pss_cons (ps_expr (pe_cal (cal_check_asked T) hr (pa_cons (pv 0) (pa_cons (pv 1) (pa_cons (pv 2) pa_nil)))))
      (pss_cons (ps_if (pt_not (pt_chain op_le op_le pe_int (pv 3) (pe_gi (T.nums 59 _ _ rfl))))
      pss_never
      pss_nil)
      (pss_cons (ps_set (i := 4) sc_answer.nd rfl (by first | exact Or.inl rfl | exact Or.inr rfl) (pe_lst pa_nil))
      (pss_cons (ps_set (i := 5) sc_answer.nd rfl (by first | exact Or.inl rfl | exact Or.inr rfl) (pv 3))
      (pss_cons (ps_for PassesOwn.never rfl (pi_listK (K := K) (pv 2)) (pg_tupK (K := K) (n := 2) (by rfl) (pgs_cons (pg_name (i := 6) sc_answer.nd rfl (by first | exact Or.inl rfl | exact Or.inr rfl)) (pgs_cons (pg_name (i := 7) sc_answer.nd rfl (by first | exact Or.inl rfl | exact Or.inr rfl)) pgs_nil)))
      (pss_cons (ps_set (i := 8) sc_answer.nd rfl (by first | exact Or.inl rfl | exact Or.inr rfl) (pe_slice sl_str (pe_cal (cal_packet_code T) hr (pa_cons (pv 0) (pa_cons (pv 1) (pa_cons (pv 6) pa_nil)))) (po_some (pv 7)) po_none))
      (pss_cons (ps_set (i := 9) sc_answer.nd rfl (by first | exact Or.inl rfl | exact Or.inr rfl) (pe_slice sl_str (pv 8) po_none (po_some (pv 5))))
      (pss_cons (ps_if (pt_cmpR op_ne (pv 9) (pe_tx txe) (nomark _))
      (pss_one (ps_expr (pe_bm PySem.F.plainAttrs_list PySem.F.slot_list_append PySem.F.type_list_append mt_append (pv 4) (pa_cons (pe_tup (pa_cons (pv 6) (pa_cons (pv 7) (pa_cons (pv 9) pa_nil)))) pa_nil))))
      pss_nil)
      (pss_cons (ps_if (pt_cmpR op_lt (pe_callB call_len_str (by rfl) (T.nof _ (fre_len)) PySem.boot_len (pa_cons (pv 9) pa_nil)) (pe_callB call_len_str (by rfl) (T.nof _ (fre_len)) PySem.boot_len (pa_cons (pv 8) pa_nil)) (nomark _))
      (pss_one (ps_ret (pv 4)))
      pss_nil)
      (pss_one (ps_set (i := 5) sc_answer.nd rfl (by first | exact Or.inl rfl | exact Or.inr rfl) (pe_op op_sub (pv 5) (pe_callB call_len_str (by rfl) (T.nof _ (fre_len)) PySem.boot_len (pa_cons (pv 9) pa_nil))))))))))
      (pss_one (ps_ret (pv 4)))))))), ?_⟩
    walk_at "start"
    walk_at "go"
    refine ⟨f, a, b, r, v, es, rs, rfl, hF, hP, ok, hr1, hrs, hnd, hl, hes, fun H1 S1 => ?_⟩
    walk_at "go"
    refine ⟨sz0, fun D hD => ?_⟩
    have nD : H D = none := S1.free hD
    have S2 : Same H (upd H1 D (.lst [])) := S1.new hD
    walk_at "go"
    refine ⟨⟨_, SqL.of (S2 _ _ hr1)⟩, ?_⟩
    refine g_forV (fun i σ H' => Same H H' ∧ ∃ (left : Nat) (ps : List V) (done : List Pc) (e6 e7 e8 e9 : Option V), left ≤ n ∧ H' D = some (.lst ps) ∧ Paired (PcV H') ps done ∧ done.length ≤ i ∧ done ++ ansM f v left (es.drop i) = ansM f v n es ∧
      σ = [some (.ref a), some (.ref b), some (.ref r), some (.int n), some (.ref D), some (.int left), e6, e7, e8, e9]) (itv_l r rs) (fun i σ H' h => h.1.seq (SqL.of hr1)) ⟨S2, n, [], [], none, none, none, none, Nat.le_refl _, upd_same, .nil, Nat.le_refl _, rfl, rfl⟩ (fun i σ H' hi h => ?_) (fun σ H' h => ?_)
    · obtain ⟨S, left, ps, done, e6, e7, e8, e9, hleft, hDl, hps, hdl, hans, e⟩ := h
      subst e
      rw [hrs.length] at hi
      obtain ⟨q, kr, eq, hq, hky⟩ := pair_at (d := V.non) hrs hi
      obtain ⟨hok, h100⟩ := hes _ (List.getElem_mem hi)
      have hdrop : es.drop i = es[i] :: es.drop (i + 1) := List.drop_eq_getElem_cons hi
      rw [hdrop, ansM_cons] at hans
      have h20 := (full_find ok v hok).2.2
      generalize hee : es[i] = ent at hq hky hok h100 hans h20
      rw [eq]
      refine g_gtup (SqT.of (S _ _ hq)) rfl ?_
      walk_at "go"
      refine ⟨f, a, b, v, ent.1, kr, rfl, hF.up S, hP.up S, ok, hv, hky.up S, hok, fun H3 S3 => ?_⟩
      walk_at "go"
      refine g_from (by omega) ?_
      walk_at "go"
      refine g_to (by rw [List.length_drop]; omega) ?_
      have hrl : ((cdM f v ent.1).drop ent.2).length ≤ 20 := by rw [List.length_drop]; omega
      generalize hrest : (cdM f v ent.1).drop ent.2 = rest at hans hrl ⊢
      have hpl : (rest.take left).length ≤ 20 ∧ (rest.take left).length ≤ left := by rw [List.length_take]; omega
      generalize hpart : rest.take left = part at hans hpl ⊢
      have S4 := S.trans S3
      have nD3 : H3 D = some (.lst ps) := S3 _ _ hDl
      have hps3 := hps.mono fun _ _ h => h.up S3
      walk_at "go"
      refine g_ite (fun hne => ?_) (fun hne => ?_)
      · have hne : part ≠ [] := by
          intro q
          rw [q] at hne
          cases hne
        rw [if_neg hne, ← List.append_assoc] at hans
        walk_at "go"
        refine g_bm ?_
        walk_at "go"
        refine ⟨.inl ⟨rfl, _, SqL.of nD3⟩, ?_⟩
        walk_at "go"
        refine ⟨sz3, fun p hp => ?_⟩
        have n2 : p ≠ D := fun q => by rw [q, nD3] at hp; cases hp
        walk_at "go"
        refine ⟨D, ps, _, rfl, rfl, upd_get hp nD3, lt_sz (by rw [hps3.length]; omega), ?_⟩
        have S9 : Same H (upd (upd H3 p (.tup [kr, .int (ent.2 : Nat), .str (tx part)])) D (.lst (ps ++ [.ref p]))) := (S4.new hp).set nD
        have hD9 : (upd (upd H3 p (.tup [kr, .int (ent.2 : Nat), .str (tx part)])) D (.lst (ps ++ [.ref p]))) D = some (.lst (ps ++ [.ref p])) := upd_same
        have SD : SameB D H3 (upd (upd H3 p (.tup [kr, .int (ent.2 : Nat), .str (tx part)])) D (.lst (ps ++ [.ref p]))) := (SameB.of (same_new hp)).put
        have hp9 : Paired (PcV (upd (upd H3 p (.tup [kr, .int (ent.2 : Nat), .str (tx part)])) D (.lst (ps ++ [.ref p])))) (ps ++ [.ref p]) (done ++ [(ent.1, ent.2, part)]) := by
          refine Paired.snoc (hps3.mono fun _ _ h => h.putL nD3 SD) ⟨p, kr, rfl, ?_, ?_⟩
          · rw [upd_ne n2]
            exact upd_same
          · exact ((hky.up S).up S3).putL nD3 SD
        walk_at "go"
        refine g_ite (fun hlt => ?_) (fun hlt => ?_)
        · have hlt : part.length < rest.length := by have := of_decide_eq_true hlt; omega
          rw [if_pos hlt, List.append_nil] at hans
          walk_at "go"
          refine k D _ _ S9 hD9 ?_
          rw [← hans]
          exact hp9
        · have hlt : ¬ part.length < rest.length := by have := of_decide_eq_false hlt; omega
          rw [if_neg hlt] at hans
          have em : (left : Int) - (part.length : Nat) = ((left - part.length : Nat) : Int) := by omega
          walk_at "go"
          rw [em]
          refine ⟨S9, left - part.length, _, _, _, _, _, _, by omega, hD9, hp9, ?_, hans, rfl⟩
          rw [List.length_append]
          exact Nat.succ_le_succ hdl
      · have hne : part = [] := by
          by_cases q : part = []
          · exact q
          · rw [decide_eq_false q] at hne
            cases hne
        rw [if_pos hne, List.nil_append] at hans
        have S9 := S4
        have hD9 := nD3
        have hp9 := hps3
        walk_at "go"
        refine g_ite (fun hlt => ?_) (fun hlt => ?_)
        · have hlt : part.length < rest.length := by have := of_decide_eq_true hlt; omega
          rw [if_pos hlt, List.append_nil] at hans
          walk_at "go"
          refine k D _ _ S9 hD9 ?_
          rw [← hans]
          exact hp9
        · have hlt : ¬ part.length < rest.length := by have := of_decide_eq_false hlt; omega
          rw [if_neg hlt] at hans
          have em : (left : Int) - (part.length : Nat) = ((left - part.length : Nat) : Int) := by omega
          walk_at "go"
          rw [em]
          refine ⟨S9, left - part.length, _, _, _, _, _, _, by omega, hD9, hp9, ?_, hans, rfl⟩
          omega
    · obtain ⟨S, left, ps, done, e6, e7, e8, e9, hleft, hDl, hps, hdl, hans, e⟩ := h
      subst e
      rw [hrs.length, List.drop_length] at hans
      have hans : done ++ [] = ansM f v n es := hans
      rw [List.append_nil] at hans
      walk_at "go"
      rw [hans] at hps
      exact k D _ ps S hDl hps
end

end PP
namespace PP
open PySem PySem.Spec PyProof.Rows L2
/-- a name's new value, in a state that is written out -/
local macro_rules | `(tactic| walk_at "set") => `(tactic| (simp only [List.set_cons_succ, List.set_cons_zero]; exact rfl))
local macro_rules | `(tactic| walk_at "start") => `(tactic| (refine g_start (σ' := ?sgm) ?hstart ?_; (case hstart => (simp only [start_eS, start_eN, start_e0]; exact rfl))))
/-- one step of a reading -/
local macro_rules | `(tactic| walk_at "g1") => `(tactic| first
  | fail)
local macro_rules | `(tactic| walk_at "go") => `(tactic| repeat (walk_at "g1"))
/-- if c: x = an int, joined -/
local macro_rules | `(tactic| walk_at "when") => `(tactic| (refine g_whenI (i0 := ?wj) (i1 := ?wi) ?wo ?wh ?_; (case wo => exact rfl); (case wh => (intro hw Q' hq; walk_at "go"; exact hq))))
/-- a heap that has only grown -/
local macro_rules | `(tactic| walk_at "same") => `(tactic| repeat (first | exact Same.refl _ | assumption | refine L2.Same.new ?_ (by assumption)))
/-- what stands at a place of a heap that has only grown -/
local macro_rules | `(tactic| walk_at "get") => `(tactic| repeat (first | exact upd_same | assumption | refine upd_get (by assumption) ?_))
/-! ### plan's groups -/
structure Gp where
  n : Int
  l : Addr
  ks : List K3
def gpK (gl : List Gp) : List (L2.Key × V) := gl.map fun g => (.inl g.n, .ref g.l)
structure GpsOk (H : Hp) (gl : List Gp) : Prop where
  h : ∀ g ∈ gl, ∃ rs, H g.l = some (.lst rs) ∧ KsV H rs g.ks
  n : (gl.map (·.n)).Nodup
  l : (gl.map (·.l)).Nodup
def grp (gl : List Gp) (n : Int) : List K3 := ((gl.find? fun g => decide (g.n = n)).map (·.ks)).getD []
theorem gp_find {gl : List Gp} {n : Int} (h : n ∈ gl.map (·.n)) : ∃ g, gl.find? (fun g => decide (g.n = n)) = some g ∧ g ∈ gl ∧ g.n = n := by
  cases e : gl.find? (fun g => decide (g.n = n)) with
  | none =>
    rw [List.find?_eq_none] at e
    obtain ⟨g, hg, q⟩ := List.mem_map.mp h
    exact absurd (decide_eq_true q) (e g hg)
  | some g => exact ⟨g, rfl, List.mem_of_find?_eq_some e, of_decide_eq_true (List.find?_some (p := fun g : Gp => decide (g.n = n)) e)⟩
theorem gpK_val (gl : List Gp) (n : Int) : valV (gpK gl) (.inl n) = (gl.find? fun g => decide (g.n = n)).map fun g => V.ref g.l := by
  unfold valV gpK
  induction gl with
  | nil => rfl
  | cons g gl ih =>
    rw [List.map_cons, List.find?_cons, List.find?_cons]
    have e : decide (((Sum.inl g.n : L2.Key), V.ref g.l).1 = Sum.inl n) = decide (g.n = n) := by
      rw [decide_eq_decide]
      exact ⟨fun h => Sum.inl.inj h, fun h => by rw [h]⟩
    rw [e]
    cases decide (g.n = n) with
    | true => rfl
    | false => exact ih
theorem gpK_none {gl : List Gp} {n : Int} (h : n ∉ gl.map (·.n)) : (Sum.inl n : L2.Key) ∉ (gpK gl).map (·.1) := by
  intro q
  unfold gpK at q
  rw [List.map_map] at q
  obtain ⟨g, hg, e⟩ := List.mem_map.mp q
  exact h (List.mem_map.mpr ⟨g, hg, Sum.inl.inj e⟩)
theorem nd_inj : ∀ {gl : List Gp}, (gl.map (·.n)).Nodup → ∀ {a b : Gp}, a ∈ gl → b ∈ gl → a.n = b.n → a = b
  | g :: gl, h, a, b, ha, hb, e => by
    rw [List.map_cons, List.nodup_cons] at h
    rcases List.mem_cons.mp ha with q | q <;> rcases List.mem_cons.mp hb with r | r
    · rw [q, r]
    · exact absurd (List.mem_map.mpr ⟨b, r, by rw [← e, q]⟩) h.1
    · exact absurd (List.mem_map.mpr ⟨a, q, by rw [e, r]⟩) h.1
    · exact nd_inj h.2 q r e
theorem grp_map {gl : List Gp} (h : (gl.map (·.n)).Nodup) : (gl.map (·.n)).flatMap (grp gl) = gl.flatMap (·.ks) := by
  have key : ∀ (s : List Gp), (∀ g ∈ s, g ∈ gl) → (s.map (·.n)).flatMap (grp gl) = s.flatMap (·.ks) := by
    intro s
    induction s with
    | nil => intro _; rfl
    | cons g s ih =>
      intro hs
      rw [List.map_cons, List.flatMap_cons, List.flatMap_cons, ih (fun x hx => hs x (List.mem_cons_of_mem _ hx))]
      congr 1
      have hg := hs g List.mem_cons_self
      obtain ⟨g', e, hg', en⟩ := gp_find (List.mem_map.mpr ⟨g, hg, rfl⟩ : g.n ∈ gl.map (·.n))
      have : g' = g := by
        exact nd_inj h hg' hg en
      unfold grp
      rw [e, this]
      rfl
  exact key gl fun _ h => h
theorem flat_le {α β : Type} {F : α → List β} {c : Nat} (h : ∀ x, (F x).length ≤ c) : ∀ l : List α, (l.flatMap F).length ≤ l.length * c
  | [] => by simp
  | x :: l => by
    rw [List.flatMap_cons, List.length_append, List.length_cons, Nat.succ_mul]
    have := flat_le h l
    have := h x
    omega
/-- a key joins its group -/
theorem gps_add {H : Hp} {s t : List Gp} {g : Gp} {rs : List V} {x : K3} {xv : V} (ok : GpsOk H (s ++ g :: t)) (hrs : H g.l = some (.lst rs)) (hx : KyV H xv x) :
    GpsOk (upd H g.l (.lst (rs ++ [xv]))) (s ++ ⟨g.n, g.l, g.ks ++ [x]⟩ :: t) := by
  have SB : SameB g.l H (upd H g.l (.lst (rs ++ [xv]))) := SameB.refl.put
  have kp : ∀ {v : V} {k : K3}, KyV H v k → KyV (upd H g.l (.lst (rs ++ [xv]))) v k := fun h => h.putL hrs SB
  have nd := ok.l
  rw [List.map_append, List.map_cons, List.nodup_append] at nd
  obtain ⟨n1, n2, n3⟩ := nd
  refine ⟨fun g' hg' => ?_, ?_, ?_⟩
  · rcases List.mem_append.mp hg' with h | h
    · obtain ⟨rs', h1, h2⟩ := ok.h g' (List.mem_append_left _ h)
      have ne : g'.l ≠ g.l := n3 _ (List.mem_map.mpr ⟨g', h, rfl⟩) _ List.mem_cons_self
      exact ⟨rs', by rw [upd_ne ne]; exact h1, h2.mono fun _ _ q => kp q⟩
    · rcases List.mem_cons.mp h with h | h
      · subst h
        obtain ⟨rs', h1, h2⟩ := ok.h g (List.mem_append_right _ List.mem_cons_self)
        rw [hrs] at h1
        injection h1 with h1
        injection h1 with h1
        subst h1
        exact ⟨_, upd_same, Paired.snoc (h2.mono fun _ _ q => kp q) (kp hx)⟩
      · obtain ⟨rs', h1, h2⟩ := ok.h g' (List.mem_append_right _ (List.mem_cons_of_mem _ h))
        have ne : g'.l ≠ g.l := fun q => (List.nodup_cons.mp n2).1 (by rw [← q]; exact List.mem_map.mpr ⟨g', h, rfl⟩)
        exact ⟨rs', by rw [upd_ne ne]; exact h1, h2.mono fun _ _ q => kp q⟩
  · have := ok.n
    simpa using this
  · have := ok.l
    simpa using this
theorem flat_add {s t : List Gp} {g : Gp} {x : K3} : ((s ++ ⟨g.n, g.l, g.ks ++ [x]⟩ :: t).flatMap (·.ks)).Perm ((s ++ g :: t).flatMap (·.ks) ++ [x]) := by
  simp only [List.flatMap_append, List.flatMap_cons, List.append_assoc]
  refine List.Perm.append_left _ (List.Perm.append_left _ ?_)
  exact List.perm_append_comm
theorem gpK_add {s t : List Gp} {g : Gp} {x : K3} : gpK (s ++ ⟨g.n, g.l, g.ks ++ [x]⟩ :: t) = gpK (s ++ g :: t) := by
  unfold gpK
  simp
def KeepLT (H H' : Hp) : Prop := ∀ b o, H b = some o → (∀ kvs, o ≠ .dK kvs) → H' b = some o
theorem KyV.keep {H H' : Hp} {v : V} {k : K3} (h : KyV H v k) (S : KeepLT H H') : KyV H' v k := by
  obtain ⟨r, e, h⟩ := h
  exact ⟨r, e, S _ _ h (fun _ q => by cases q)⟩
theorem GpsOk.keep {H H' : Hp} {gl : List Gp} (ok : GpsOk H gl) (S : KeepLT H H') : GpsOk H' gl := by
  refine ⟨fun g hg => ?_, ok.n, ok.l⟩
  obtain ⟨rs, h1, h2⟩ := ok.h g hg
  exact ⟨rs, S _ _ h1 (fun _ q => by cases q), h2.mono fun _ _ q => q.keep S⟩
theorem Same.keepLT {H H' : Hp} (S : Same H H') : KeepLT H H' := fun b o h _ => S b o h
theorem gps_new {H : Hp} {gl : List Gp} {n : Int} {z : Addr} {x : K3} {xv : V} (ok : GpsOk H gl) (hn : n ∉ gl.map (·.n)) (hz : z ∉ gl.map (·.l)) (h : H z = some (.lst [xv])) (hx : KyV H xv x) : GpsOk H (gl ++ [⟨n, z, [x]⟩]) := by
  refine ⟨fun g hg => ?_, ?_, ?_⟩
  · rcases List.mem_append.mp hg with q | q
    · exact ok.h g q
    · rw [List.mem_singleton.mp q]
      exact ⟨[xv], h, .cons hx .nil⟩
  · rw [List.map_append, List.nodup_append]
    refine ⟨ok.n, by simp, fun a ha b hb e => hn ?_⟩
    have hb : b = n := by simpa using hb
    rw [← hb, ← e]
    exact ha
  · rw [List.map_append, List.nodup_append]
    refine ⟨ok.l, by simp, fun a ha b hb e => hz ?_⟩
    have hb : b = z := by simpa using hb
    rw [← hb, ← e]
    exact ha
theorem SameB.set {t a : Addr} {H0 H : Hp} {o : HO} (S : SameB t H0 H) (h : H0 a = none) : SameB t H0 (upd H a o) := fun b u n e => by
  have n2 : b ≠ a := fun q => by rw [q, h] at e; cases e
  rw [upd_ne n2]
  exact S b u n e
theorem g_dsetd {σ : L2.St} {H : Hp} {Q : VK} {td ty tz : TE} (q : td σ H fun x H1 => ∃ a, x = .ref a ∧ IsD H1 a ∧ ty σ H1 fun y H2 => tz σ H2 fun z H3 => ∃ (kvs : List (L2.Key × V)) (k : L2.Key), H3 a = some (.dK kvs) ∧ y = kV k ∧ kvs.length < sizeLine ∧
  (∀ v, valV kvs k = some v → Q v H3) ∧ (valV kvs k = none → Q z (upd H3 a (.dK (putK kvs k z))))) : tDSetd td ty tz σ H Q := q
theorem g_ckw {σ : L2.St} {H : Hp} {Q : VK} {r : List V → List V → Hp → VK → Prop} {t tk : TA} (q : t σ H fun vs H1 => tk σ H1 fun zs H2 => r vs zs H2 Q) : tCKw r t tk σ H Q := q
theorem g_dget {σ : L2.St} {H : Hp} {Q : VK} {td ty : TE} (q : td σ H fun x H1 => ty σ H1 fun y H2 => ∃ a v, x = .ref a ∧ DGet H2 a y (some v) ∧ Q v H2) : tDGet td ty σ H Q := q
theorem gps_nil {H : Hp} : GpsOk H [] := ⟨fun _ hg => absurd hg List.not_mem_nil, List.nodup_nil, List.nodup_nil⟩

end PP
namespace PP
open PySem PySem.Spec PyProof.Rows L2
/-- a name's new value, in a state that is written out -/
local macro_rules | `(tactic| walk_at "set") => `(tactic| (simp only [List.set_cons_succ, List.set_cons_zero]; exact rfl))
local macro_rules | `(tactic| walk_at "start") => `(tactic| (refine g_start (σ' := ?sgm) ?hstart ?_; (case hstart => (simp only [start_eS, start_eN, start_e0]; exact rfl))))
/-- one step of a reading -/
local macro_rules | `(tactic| walk_at "g1") => `(tactic| first
  | ((with_reducible refine g_var (v := ?vv) ?hvv ?_); (case hvv => exact rfl))
  | ((with_reducible refine g_nxS (σ' := ?sgm) ?hset ?_); (case hset => walk_at "set"))
  | ((with_reducible refine g_gnameS (σ' := ?sgm) ?hset ?_); (case hset => walk_at "set"))
  | with_reducible first
    | refine g_c ?_
    | refine g_op ?_
    | refine g_I0 ?_
    | refine g_seq ?_
    | refine g_set ?_
    | refine g_ret ?_
    | refine g_cons ?_
    | refine g_nil ?_
    | refine g_call ?_
    | refine g_met ?_
    | refine g_meF (by assumption) rfl ?_
    | refine g_drop ?_
    | refine g_lst ?_
    | refine g_nx ?_
    | refine g_for ?_
    | refine g_rng1 ?_
    | refine g_rngN (by omega) ?_
    | refine g_ilst ?_
    | refine g_gname ?_
    | refine g_lc ?_
    | refine g_yes ?_
    | refine g_true ?_
  | with_reducible refine g_exR ?_)
local macro_rules | `(tactic| walk_at "go") => `(tactic| repeat (walk_at "g1"))
/-- if c: x = an int, joined -/
local macro_rules | `(tactic| walk_at "when") => `(tactic| (refine g_whenI (i0 := ?wj) (i1 := ?wi) ?wo ?wh ?_; (case wo => exact rfl); (case wh => (intro hw Q' hq; walk_at "go"; exact hq))))
/-- a heap that has only grown -/
local macro_rules | `(tactic| walk_at "same") => `(tactic| repeat (first | exact Same.refl _ | assumption | refine L2.Same.new ?_ (by assumption)))
/-- what stands at a place of a heap that has only grown -/
local macro_rules | `(tactic| walk_at "get") => `(tactic| repeat (first | exact upd_same | assumption | refine upd_get (by assumption) ?_))
def sp_plan (CF : Addr) : Sp := fun vs H Q _ => ∃ (f : Fd) (a r : Addr) (gs : List Rg), vs = [.ref a, .ref r] ∧ FrAt CF H a f ∧ f.Ok ∧ RgsAt H r gs ∧ ∀ D H' rs pl, Same H H' → H' D = some (.lst rs) → KsV H' rs pl → pl.Perm (keysM f) → Q (.ref D) H'
section
variable {P : Program} {wd : World} {K : PySem.W.Frag} {mg : Str → Option Value} {base : Heap} {CF CA CP : Addr}

theorem sc_plan : FnScope ["frame", "regions", "ahead", "tile", "rows", "key", "place"] ["frame", "regions"] (defScope s_plan) := ⟨rfl, rfl, rfl, by decide +kernel, rfl, by decide +kernel, by decide +kernel⟩
theorem cal_plan (T : Tx K mg CF CA CP) : Cal P wd K mg base 6 "plan" ["frame", "regions"] (sp_plan CF) := by
  refine T.cal (d := d_plan) 58 rfl sc_plan (fun _ _ _ _ _ _ us hl => match us, hl with | [_, _], _ => rfl) (fun vs H Q E h => ?_) (fun f cdv A outer s H vs Q E hr h => ?_)
  · obtain ⟨f, a, r, gs, rfl, _⟩ := h
    rfl
  · obtain ⟨f, a, r, gs, rfl, hF, ok, hR, k⟩ := h
    have hu := hu_of hr
    refine ⟨_, (pss_cons (ps_expr (pe_cal (cal_check_regions T) hr (pa_cons (pv 1) pa_nil)))
      (pss_cons (ps_setLc (i := 2) (own := [("tile", 3)]) rfl sc_plan.nd rfl rfl (sw_true rfl rfl rfl (by decide +kernel)) (pi_range1 (by rfl) (T.nof _ (fre_range)) (pa_cons (pe_mcal0 T.cF.cl (mcal_Frame_tiles T) hr (pv 0)) pa_nil)) (blkOk_by (N := ["frame", "regions", "ahead", "tile", "rows", "key", "place"]) (sc := defScope s_plan) (by decide +kernel)) (fun _ _ _ _ _ => (pg_name (i := 3) sc_plan.nd rfl (by first | exact Or.inl rfl | exact Or.inr rfl))) (fun _ _ _ _ _ => pts_nil) (fun _ _ _ _ _ => (pe_cal (cal_boost T) hr (pa_cons (pv 0) (pa_cons (pv 1) (pa_cons (pv 3) pa_nil))))))
      (pss_cons (ps_set (i := 4) sc_plan.nd rfl (by first | exact Or.inl rfl | exact Or.inr rfl) pe_dnewK)
      (pss_cons (ps_for PassesOwn.never rfl (pi_listK (K := K) (pe_cal (cal_all_keys T) hr (pa_cons (pv 0) pa_nil))) (pg_name (i := 5) sc_plan.nd rfl (by first | exact Or.inl rfl | exact Or.inr rfl))
      (pss_one (ps_expr (pe_bm PySem.F.plainAttrs_list PySem.F.slot_list_append PySem.F.type_list_append mt_append (pe_dsetd (pv 4) (pe_op op_add (pe_ix (ix_tupK (K := K)) (pv 5) pe_int (fun _ _ => rfl)) (pe_ix (ix_listK (K := K)) (pv 2) (pe_ix (ix_tupK (K := K)) (pv 5) pe_int (fun _ _ => rfl)) (fun _ _ => rfl))) (pe_lst pa_nil) ⟨rfl, rfl, rfl, rfl⟩) (pa_cons (pv 5) pa_nil)))))
      (pss_one (ps_ret (pe_lc2 (own := [("place", 6), ("key", 5)]) (vs1 := [5]) rfl sc_plan.nd (pi_listK (K := K) (pe_callBK cr_sortedRevD (by rfl) (T.nof _ (fre_sorted)) (by decide +kernel) (pa_cons (pv 4) pa_nil) (pk_cons pe_bl pk_nil))) (blkOk_by (N := ["frame", "regions", "ahead", "tile", "rows", "key", "place"]) (sc := defScope s_plan) (by decide +kernel)) (by decide) (fun _ _ _ _ _ => (pg_name (i := 6) sc_plan.nd rfl (by first | exact Or.inl rfl | exact Or.inr rfl))) (fun _ _ _ _ _ => pts_nil) (fun _ _ _ _ _ => (pi_listK (K := K) (pe_dget hu (pv 4) (pv 6) (fun _ _ => rfl)))) (fun _ _ _ _ _ => (pg_name (i := 5) sc_plan.nd rfl (by first | exact Or.inl rfl | exact Or.inr rfl))) (fun _ _ _ _ _ => pts_nil) (fun _ _ _ _ _ => (pv 5))))))))), ?_⟩
    walk_at "start"
    have ht := ok.tls
    have hkl : (keysM f).length ≤ 225 := by
      have := keysM_len f f.d
      have h1 := ok.d; have h2 := ok.cc
      have e : (keysM f).length = f.d * (f.c * f.tls) := this
      rw [e]
      have q1 := Nat.mul_le_mul h2.2 ht.2
      have q2 := Nat.mul_le_mul h1.2 q1
      omega
    walk_at "go"
    refine ⟨r, gs, rfl, hR, ?_⟩
    walk_at "go"
    refine ⟨f, a, rfl, hF, ok, ?_⟩
    walk_at "go"
    refine g_lcV (fun i acc _ => ∃ bs : List Int, acc = bs.map V.int ∧ bs.length = i) (by omega) (itv_r0 f.tls) (fun _ _ => trivial) ⟨[], rfl, rfl⟩ (fun D i acc H2 Nx hi hD hH S hI hN KK hK R hR' => ?_) (fun D1 acc H2 hD hD1 S hI => ?_)
    · obtain ⟨bs, hb1, hb2⟩ := hI
      walk_at "go"
      refine hR' _ _ ⟨rfl, ?_⟩
      walk_at "go"
      refine ⟨f, a, r, gs, i, rfl, hF.up S, ok, hi, hR.up S, fun n H3 S3 => ?_⟩
      refine hK _ _ S3 ⟨bs ++ [n], ?_, by rw [List.length_append, hb2]; rfl⟩
      rw [hb1, List.map_append]
      rfl
    obtain ⟨bs, hb1, hb2⟩ := hI
    walk_at "go"
    intro Rd hRd
    walk_at "go"
    have S2 : Same H (upd H2 Rd (.dK [])) := S.new hRd
    refine ⟨f, a, rfl, hF.up S2, ok, fun D3 H3 rs S3 hD3 hks => ?_⟩
    have hRd3 : H3 Rd = some (.dK []) := S3 _ _ upd_same
    have hD13 : H3 D1 = some (.lst (bs.map V.int)) := by
      refine S3 _ _ (upd_get hRd ?_)
      rw [hD1, hb1]
    have S4 := S2.trans S3
    walk_at "go"
    refine ⟨⟨_, SqL.of hD3⟩, ?_⟩
    have nRd : ∀ {b : Addr} {o : HO}, H3 b = some o → (∀ kvs, o ≠ .dK kvs) → b ≠ Rd := fun h hn q => by
      rw [q, hRd3] at h
      exact hn _ (Option.some.inj h).symm
    have nD3 : D3 ≠ Rd := nRd hD3 (fun _ q => by cases q)
    have nD1 : D1 ≠ Rd := nRd hD13 (fun _ q => by cases q)
    refine g_forV (fun i σ H' => SameB Rd H3 H' ∧ ∃ (gl : List Gp) (e5 : Option V), H' Rd = some (.dK (gpK gl)) ∧ GpsOk H' gl ∧ (∀ g ∈ gl, H3 g.l = none) ∧ (gl.flatMap (·.ks)).Perm ((keysM f).take i) ∧ gl.length ≤ i ∧ i ≤ 225 ∧
      σ = [some (.ref a), some (.ref r), some (.ref D1), none, some (.ref Rd), e5, none]) (itv_l D3 rs) (fun i σ H' h => SqL.of (h.1 _ _ nD3 hD3)) ⟨.refl, [], none, hRd3, gps_nil, fun g hg => absurd hg List.not_mem_nil, List.Perm.refl _, Nat.le_refl _, by omega, rfl⟩ (fun i σ H' hi h => ?_) (fun σ H' h => ?_)
    · obtain ⟨SB, gl, e5, hR', hg, hg3, hperm, hgl, h225, e⟩ := h
      subst e
      rw [hks.length] at hi
      have hk := pair_at (d := V.non) hks hi
      have hok := mem_keysM.mp (List.getElem_mem hi)
      have htk : (keysM f).take (i + 1) = (keysM f).take i ++ [(keysM f)[i]] := List.take_succ_eq_append_getElem hi
      generalize hkk : (keysM f)[i] = ky at hk hok htk
      generalize rs.getD i .non = kv at hk
      obtain ⟨rk, ek, hrk⟩ := hk
      subst ek
      have nrk : rk ≠ Rd := nRd hrk (fun _ q => by cases q)
      have hrk' := SB _ _ nrk hrk
      walk_at "go"
      refine g_bm ?_
      refine g_dsetd ?_
      walk_at "go"
      refine ⟨.inl ⟨_, .inl hR'⟩, ?_⟩
      walk_at "go"
      refine g_ixT 2 (SqT.of hrk') rfl rfl ?_
      walk_at "go"
      refine g_ixT 1 (SqT.of hrk') rfl rfl ?_
      walk_at "go"
      have hbi : (bs.map V.int)[ky.2.1]? = some (.int (bs.getD ky.2.1 0)) := map_ix (by rw [hb2]; exact hok.2.1)
      refine g_ixL ky.2.1 (SqL.of (SB _ _ nD1 hD13)) rfl hbi ?_
      walk_at "go"
      refine ⟨sz0, fun z hz => ?_⟩
      generalize (((ky.2.2 : Nat) : Int) + bs.getD ky.2.1 0) = n
      have hgz : GpsOk (upd H' z (.lst [])) gl := hg.keep (Same.keepLT (same_new hz))
      have hkz : KyV (upd H' z (.lst [])) (.ref rk) ky := ⟨rk, rfl, upd_get hz hrk'⟩
      have SBz : SameB Rd H3 (upd H' z (.lst [])) := SB.then (same_new hz)
      have hRz : (upd H' z (.lst [])) Rd = some (.dK (gpK gl)) := upd_get hz hR'
      refine ⟨gpK gl, .inl n, hRz, rfl, lt_sz (by unfold gpK; rw [List.length_map]; omega), fun v hv => ?_, fun hv => ?_⟩
      · rw [gpK_val] at hv
        cases hfi : gl.find? (fun g => decide (g.n = n)) with
        | none => rw [hfi] at hv; cases hv
        | some g =>
          rw [hfi] at hv
          have hv := Option.some.inj hv
          subst hv
          have hgm := List.mem_of_find?_eq_some hfi
          obtain ⟨s1, t1, es⟩ := List.append_of_mem hgm
          obtain ⟨rs1, h1, h2⟩ := hgz.h g hgm
          have hksl : rs1.length ≤ 225 := by
            rw [h2.length]
            have q1 : (gl.flatMap (·.ks)).length ≤ 225 := by rw [hperm.length_eq, List.length_take]; omega
            rw [es, List.flatMap_append, List.flatMap_cons, List.length_append, List.length_append] at q1
            omega
          refine ⟨.inl ⟨rfl, _, SqL.of h1⟩, ?_⟩
          walk_at "go"
          refine ⟨g.l, rs1, _, rfl, rfl, h1, lt_sz (by omega), ?_⟩
          walk_at "go"
          rw [es] at hgz
          have hg2 := gps_add hgz h1 hkz
          have nl : Rd ≠ g.l := fun q => by rw [← q, hRz] at h1; cases h1
          refine ⟨SBz.set (hg3 g hgm), _, _, ?_, hg2, fun g' hg' => ?_, ?_, ?_, by omega, rfl⟩
          · rw [upd_ne nl, gpK_add, ← es]
            exact hRz
          · rcases List.mem_append.mp hg' with q | q
            · exact hg3 g' (by rw [es]; exact List.mem_append_left _ q)
            · rcases List.mem_cons.mp q with q | q
              · rw [q]
                exact hg3 g hgm
              · exact hg3 g' (by rw [es]; exact List.mem_append_right _ (List.mem_cons_of_mem _ q))
          · refine flat_add.trans ?_
            rw [← es, htk]
            exact hperm.append_right _
          · rw [es] at hgl
            simp only [List.length_append, List.length_cons] at hgl ⊢
            omega
      · have hn : n ∉ gl.map (·.n) := by
          intro q
          obtain ⟨g, e, _, _⟩ := gp_find q
          rw [gpK_val, e] at hv
          cases hv
        have nz : z ≠ Rd := fun q => by rw [q, hR'] at hz; cases hz
        have hzz : ∀ {X : HO}, (upd (upd H' z (.lst [])) Rd X) z = some (.lst []) := by
          intro X
          rw [upd_ne nz]
          exact upd_same
        refine ⟨.inl ⟨rfl, _, SqL.of hzz⟩, ?_⟩
        walk_at "go"
        refine ⟨z, [], _, rfl, rfl, hzz, lt_sz (by simp), ?_⟩
        walk_at "go"
        have kp : KeepLT H' (upd (upd (upd H' z (.lst [])) Rd (.dK (putK (gpK gl) (.inl n) (.ref z)))) z (.lst ([] ++ [.ref rk]))) := fun b o hb hnk => by
          have n1 : b ≠ z := fun q => by rw [q, hz] at hb; cases hb
          have n2 : b ≠ Rd := fun q => by rw [q, hR'] at hb; exact hnk _ (Option.some.inj hb).symm
          rw [upd_ne n1, upd_ne n2, upd_ne n1]
          exact hb
        have hz3 : H3 z = none := by
          cases q : H3 z with
          | none => rfl
          | some o =>
            rw [SB _ _ nz q] at hz
            cases hz
        refine ⟨(SBz.put).set hz3, gl ++ [⟨n, z, [ky]⟩], _, ?_, gps_new (hg.keep kp) hn (fun q => ?_) upd_same (KyV.keep ⟨rk, rfl, hrk'⟩ kp), fun g' hg' => ?_, ?_, ?_, by omega, rfl⟩
        · rw [upd_ne (Ne.symm nz), upd_same, putK_new (gpK_none hn)]
          unfold gpK
          rw [List.map_append]
          rfl
        · obtain ⟨g, hgm, e⟩ := List.mem_map.mp q
          obtain ⟨rs1, h1, _⟩ := hg.h g hgm
          rw [e, hz] at h1
          cases h1
        · rcases List.mem_append.mp hg' with q | q
          · exact hg3 g' q
          · rw [List.mem_singleton.mp q]
            exact hz3
        · rw [List.flatMap_append, htk]
          exact hperm.append_right _
        · rw [List.length_append]
          exact Nat.succ_le_succ hgl
    · obtain ⟨SB, gl, e5, hR', hg, hg3, hperm, hgl, h225, e⟩ := h
      subst e
      rw [hks.length, List.take_length] at hperm
      have hS4 : Same H H' := fun b o hb => by
        have h3 := S4 _ _ hb
        refine SB _ _ (fun q => ?_) h3
        rw [q] at hb
        have := S _ _ hb
        rw [hRd] at this
        cases this
      walk_at "go"
      refine g_lc2 ?_
      refine g_ilst ?_
      refine g_ckw ?_
      walk_at "go"
      have hkm : (gpK gl).map (·.1) = (gl.map (·.n)).map Sum.inl := by
        unfold gpK
        rw [List.map_map, List.map_map]
        rfl
      refine ⟨Rd, gpK gl, gl.map (·.n), rfl, rfl, .inl hR', hkm, by rw [List.length_map]; rw [hks.length] at hgl; omega, fun ys p hys hp => ?_⟩
      walk_at "go"
      refine ⟨⟨_, SqL.of upd_same⟩, ?_⟩
      have hgl2 : gl.length ≤ 225 := by rw [hks.length] at hgl; omega
      have hyl : ys.length ≤ 225 := by rw [hys.length_eq, List.length_map]; exact hgl2
      have hgk : ∀ x, (grp gl x).length ≤ 225 := fun x => by
        unfold grp
        cases hfi : gl.find? (fun g => decide (g.n = x)) with
        | none => exact Nat.zero_le _
        | some g =>
          have hgm := List.mem_of_find?_eq_some hfi
          obtain ⟨s1, t1, es⟩ := List.append_of_mem hgm
          have q1 : (gl.flatMap (·.ks)).length ≤ 225 := by rw [hperm.length_eq]; exact hkl
          rw [es, List.flatMap_append, List.flatMap_cons, List.length_append, List.length_append] at q1
          show g.ks.length ≤ 225
          omega
      refine g_out2 (fun j acc H => KsV H acc ((ys.take j).flatMap (grp gl))) (itv_l p (ys.map V.int)) (fun H2 S => S.seq (SqL.of upd_same)) .nil (fun D j acc H5 Nx hj hD hacc S5 hI hN R hRR => ?_) (fun D acc H5 hD hacc S5 hI => ?_)
      · rw [List.length_map] at hj
        have ej : (ys.map V.int).getD j .non = .int ys[j] := by
          rw [List.getD_eq_getElem?_getD, List.getElem?_map, List.getElem?_eq_getElem hj]
          rfl
        rw [ej]
        have hmem : ys[j] ∈ gl.map (·.n) := hys.mem_iff.mp (List.getElem_mem hj)
        obtain ⟨g, hfi, hgm, hgn⟩ := gp_find hmem
        obtain ⟨rs1, h1, h2⟩ := hg.h g hgm
        have hgr : grp gl ys[j] = g.ks := by
          unfold grp
          rw [hfi]
          rfl
        walk_at "go"
        refine hRR _ _ rfl ?_
        refine g_ilst ?_
        refine g_dget ?_
        walk_at "go"
        have S6 := (same_new hp (o := .lst (ys.map V.int))).trans S5
        have hget := DGet.k (k := (Sum.inl ys[j] : L2.Key)) (S6 _ _ hR')
        rw [gpK_val, hfi] at hget
        refine ⟨Rd, _, rfl, hget, ?_⟩
        walk_at "go"
        refine ⟨⟨_, SqL.of (S6 _ _ h1)⟩, ?_⟩
        have h1' := upd_get (u := .lst (ys.map V.int)) hp h1
        refine g_inn2 (H1 := upd H' p (.lst (ys.map V.int))) (fun x acc' H => x ≤ g.ks.length ∧ KsV H acc' ((ys.take j).flatMap (grp gl) ++ g.ks.take x)) (fun x acc' H h => ?_) (itv_l g.l rs1) hD hacc S5 (fun H2 S => S.seq (SqL.of h1')) ⟨Nat.zero_le _, by simpa using hI⟩ (fun x acc' H7 hx hacc' S7 hI' KK hK R hRR => ?_) (fun acc' H7 hacc' S7 hI' => ?_)
        · have q1 := flat_le hgk (ys.take j)
          have q2 := hgk ys[j]
          rw [hgr] at q2
          have q3 : (ys.take j).length ≤ 225 := by rw [List.length_take]; omega
          have q4 := Nat.mul_le_mul_right 225 q3
          rw [h.2.length, List.length_append, List.length_take]
          omega
        · rw [h2.length] at hx
          have hkx := pair_at (d := V.non) h2 hx
          walk_at "go"
          refine hRR _ _ rfl ?_
          walk_at "go"
          refine hK _ _ hacc' S7 ⟨hx, ?_⟩
          rw [List.take_succ_eq_append_getElem hx, ← List.append_assoc]
          refine Paired.snoc hI'.2 ?_
          obtain ⟨r9, e9, h9⟩ := hkx
          refine ⟨r9, e9, ?_⟩
          have h9' := S7 _ _ (upd_get (u := .lst (ys.map V.int)) hp h9)
          rw [hide_ne (fun q => by rw [q, hacc'] at h9'; cases h9')]
          exact h9'
        · refine hN acc' H7 hacc' S7 ?_
          have := hI'.2
          rw [h2.length, List.take_length] at this
          rw [List.take_succ_eq_append_getElem hj, List.flatMap_append, List.flatMap_cons, List.flatMap_nil, List.append_nil, hgr]
          exact this
      · rw [List.length_map, List.take_length] at hI
        refine k D H5 acc _ ((hS4.new hp).trans S5) hacc (hI.up same_hide) ?_
        refine (hys.flatMap_right _).trans ?_
        rw [grp_map hg.n]
        exact hperm
end

end PP
namespace PP
open PySem PySem.Spec PyProof.Rows L2
/-- a name's new value, in a state that is written out -/
local macro_rules | `(tactic| walk_at "set") => `(tactic| (simp only [List.set_cons_succ, List.set_cons_zero]; exact rfl))
local macro_rules | `(tactic| walk_at "start") => `(tactic| (refine g_start (σ' := ?sgm) ?hstart ?_; (case hstart => (simp only [start_eS, start_eN, start_e0]; exact rfl))))
/-- one step of a reading -/
local macro_rules | `(tactic| walk_at "g1") => `(tactic| first
  | ((with_reducible refine g_var (v := ?vv) ?hvv ?_); (case hvv => exact rfl))
  | ((with_reducible refine g_nxS (σ' := ?sgm) ?hset ?_); (case hset => walk_at "set"))
  | with_reducible first
    | refine g_blc ?_
    | refine g_seq ?_
    | refine g_set ?_
    | refine g_ret ?_
    | refine g_B ?_
    | refine g_cons ?_
    | refine g_nil ?_
    | refine g_call ?_
    | refine g_cb ?_
    | refine g_fldC ?_
    | refine g_met ?_
    | refine g_meA (by assumption) rfl ?_
    | refine g_arf (by assumption) (by assumption) ?_
    | refine g_tup ?_
    | refine g_ilst ?_
    | refine g_gname ?_
    | refine g_lc ?_
  | ((with_reducible refine ⟨tx _, rfl, sz_tx ?hzt, ?_⟩); (case hzt => first | omega | (simp only [List.length_nil, List.length_cons, List.length_append]; omega)); rw [tx_len])
  | with_reducible refine g_exR ?_)
local macro_rules | `(tactic| walk_at "go") => `(tactic| repeat (walk_at "g1"))
/-- if c: x = an int, joined -/
local macro_rules | `(tactic| walk_at "when") => `(tactic| (refine g_whenI (i0 := ?wj) (i1 := ?wi) ?wo ?wh ?_; (case wo => exact rfl); (case wh => (intro hw Q' hq; walk_at "go"; exact hq))))
/-- a heap that has only grown -/
local macro_rules | `(tactic| walk_at "same") => `(tactic| repeat (first | exact Same.refl _ | assumption | refine L2.Same.new ?_ (by assumption)))
/-- what stands at a place of a heap that has only grown -/
local macro_rules | `(tactic| walk_at "get") => `(tactic| repeat (first | exact upd_same | assumption | refine upd_get (by assumption) ?_))
def reqM (f : Fd) (m : Mp) (pl : List K3) : List En := (pl.filter (opn f m)).map fun k => (k, (getM m k).length)
def sp_request (CF CA : Addr) : Sp := fun vs H Q _ => ∃ (a fr t r : Addr) (f : Fd) (v : Pv) (m : Mp) (gs : List Rg), vs = [.ref a, .ref r] ∧ ArAt CF CA H a fr t f m ∧ f.Ok ∧ MOk f v m ∧ RgsAt H r gs ∧
  ∀ D H' rs pl, Same H H' → pl.Perm (keysM f) → H' D = some (.lst rs) → Paired (EnV H') rs (reqM f m pl) → Q (.ref D) H'
theorem reqM_add (f : Fd) (m : Mp) (pl : List K3) (k : K3) : reqM f m (pl ++ [k]) = reqM f m pl ++ (if opn f m k = true then [(k, (getM m k).length)] else []) := by
  unfold reqM
  rw [List.filter_append, List.map_append]
  congr 1
  cases h : opn f m k with
  | true => simp [List.filter_cons, h]
  | false => simp [List.filter_cons, h]
section
variable {P : Program} {wd : World} {K : PySem.W.Frag} {mg : Str → Option Value} {base : Heap} {CF CA CP : Addr}

theorem sc_request : FnScope ["arrived", "regions", "keys", "key"] ["arrived", "regions"] (defScope s_request) := ⟨rfl, rfl, rfl, by decide +kernel, rfl, by decide +kernel, by decide +kernel⟩
theorem cal_request (T : Tx K mg CF CA CP) : Cal P wd K mg base 11 "request" ["arrived", "regions"] (sp_request CF CA) := by
  refine T.cal (d := d_request) 61 rfl sc_request (fun _ _ _ _ _ _ us hl => match us, hl with | [_, _], _ => rfl) (fun vs H Q E h => ?_) (fun f cdv A outer s H vs Q E hr h => ?_)
  · obtain ⟨a, fr, t, r, f, v, m, gs, rfl, _⟩ := h
    rfl
  · obtain ⟨a, fr, t, r, f, v, m, gs, rfl, hA, ok, hm, hR, k⟩ := h
    refine ⟨_, (pss_cons (ps_set (i := 2) sc_request.nd rfl (by first | exact Or.inl rfl | exact Or.inr rfl) (pe_cal (cal_plan T) hr (pa_cons (pe_fldK (K := K) (pv 0) rfl) (pa_cons (pv 1) pa_nil))))
      (pss_one (ps_ret (pe_lc (own := [("key", 3)]) rfl sc_request.nd (pi_listK (K := K) (pv 2)) (blkOk_by (N := ["arrived", "regions", "keys", "key"]) (sc := defScope s_request) (by decide +kernel)) (fun _ _ _ _ _ => (pg_name (i := 3) sc_request.nd rfl (by first | exact Or.inl rfl | exact Or.inr rfl))) (fun _ _ _ _ _ => (pts_one (pt_val (pe_cal (cal_is_open T) hr (pa_cons (pv 0) (pa_cons (pv 3) pa_nil)))))) (fun _ _ _ _ _ => (pe_tup (pa_cons (pv 3) (pa_cons (pe_callB call_len_str (by rfl) (T.nof _ (fre_len)) PySem.boot_len (pa_cons (pe_mcal T.cA.cl (mcal_Arrived_digits T) hr (pv 0) (pa_cons (pv 3) pa_nil)) pa_nil)) pa_nil)))))))), ?_⟩
    walk_at "start"
    have hAo := hA.o; have hF := hA.f; have hT := hA.t
    have ht := ok.tls
    have hkl : (keysM f).length ≤ 225 := by
      have := keysM_len f f.d
      have h1 := ok.d; have h2 := ok.cc
      have e : (keysM f).length = f.d * (f.c * f.tls) := this
      rw [e]
      have q1 := Nat.mul_le_mul h2.2 ht.2
      have q2 := Nat.mul_le_mul h1.2 q1
      omega
    walk_at "go"
    refine ⟨f, fr, r, gs, rfl, hF, ok, hR, fun D H1 rs pl S1 hD hks hpl => ?_⟩
    have hlen : rs.length ≤ 225 := by rw [hks.length, hpl.length_eq]; exact hkl
    walk_at "go"
    refine ⟨⟨_, SqL.of hD⟩, ?_⟩
    refine g_lcV (fun i acc H => Paired (EnV H) acc (reqM f m (pl.take i))) (by omega) (itv_l D rs) (fun H2 S => S.seq (SqL.of hD)) .nil (fun D2 i acc H2 Nx hi hD2 hH S hI hN KK hK R hRR => ?_) (fun D2 acc H2 hD2 hH S hI => ?_)
    · rw [hks.length] at hi
      have hk := pair_at (d := V.non) hks hi
      have hok := mem_keysM.mp (hpl.mem_iff.mp (List.getElem_mem hi))
      have htk : pl.take (i + 1) = pl.take i ++ [pl[i]] := List.take_succ_eq_append_getElem hi
      generalize pl[i] = ky at hk hok htk
      generalize rs.getD i .non = kv at hk
      have hk2 := hk.up S
      have hA2 := (hA.up S1).up S
      have hAo := hA2.o; have hF := hA2.f; have hT := hA2.t
      have hc := hm ky hok
      have h20 := (full_find ok v hok).2.2
      have hcl := hc.length_le
      walk_at "go"
      refine hRR _ _ ⟨rfl, ?_⟩
      walk_at "go"
      refine ⟨a, fr, t, f, v, m, ky, kv, rfl, hA2, ok, hk2, hok, hc, fun H3 S3 => ?_⟩
      have hA3 := hA2.up S3
      have hAo := hA3.o; have hF := hA3.f; have hT := hA3.t
      have hk3 := hk2.up S3
      walk_at "go"
      refine g_ite (fun ho => ?_) (fun ho => ?_)
      · walk_at "go"
        refine ⟨a, fr, t, f, m, ky, kv, rfl, hA3, ok, hk3, hok, ?_⟩
        walk_at "go"
        refine ⟨sz2, fun p hp => hK _ _ (S3.new hp) ?_⟩
        have hH3 := S3 _ _ hH
        rw [htk, reqM_add, if_pos ho]
        refine Paired.snoc (hI.mono fun _ _ q => q.up (S3.new hp).hide) ⟨p, kv, rfl, ?_, ?_⟩
        · rw [hide_ne (fun q => by rw [q, hH3] at hp; cases hp)]
          exact upd_same
        · obtain ⟨rk, e, hrk⟩ := hk3
          refine ⟨rk, e, ?_⟩
          rw [hide_ne (fun q => by rw [q, hH3] at hrk; cases hrk)]
          exact upd_get hp hrk
      · refine hN _ S3 ?_
        rw [htk, reqM_add, if_neg (by rw [ho]; decide), List.append_nil]
        exact hI.mono fun _ _ q => q.up S3.hide
    · rw [hks.length, List.take_length] at hI
      exact k D2 H2 acc pl (S1.trans S) hpl hH (hI.mono fun _ _ q => q.up same_hide)
end

end PP
namespace PP
open PySem PySem.Spec PyProof.Rows L2
/-- a name's new value, in a state that is written out -/
local macro_rules | `(tactic| walk_at "set") => `(tactic| (simp only [List.set_cons_succ, List.set_cons_zero]; exact rfl))
local macro_rules | `(tactic| walk_at "start") => `(tactic| (refine g_start (σ' := ?sgm) ?hstart ?_; (case hstart => (simp only [start_eS, start_eN, start_e0]; exact rfl))))
/-- one step of a reading -/
local macro_rules | `(tactic| walk_at "g1") => `(tactic| first
  | fail)
local macro_rules | `(tactic| walk_at "go") => `(tactic| repeat (walk_at "g1"))
/-- if c: x = an int, joined -/
local macro_rules | `(tactic| walk_at "when") => `(tactic| (refine g_whenI (i0 := ?wj) (i1 := ?wi) ?wo ?wh ?_; (case wo => exact rfl); (case wh => (intro hw Q' hq; walk_at "go"; exact hq))))
/-- a heap that has only grown -/
local macro_rules | `(tactic| walk_at "same") => `(tactic| repeat (first | exact Same.refl _ | assumption | refine L2.Same.new ?_ (by assumption)))
/-- what stands at a place of a heap that has only grown -/
local macro_rules | `(tactic| walk_at "get") => `(tactic| repeat (first | exact upd_same | assumption | refine upd_get (by assumption) ?_))
/-! ### the view -/
def AllKnown (f : Fd) (v : Pv) (m : Mp) : Prop := ∀ k, okKey f k → fnd f m k = bitsM f v k
def grayRow (f : Fd) (v : Pv) (c i e : Nat) : List Nat := (pixsM f i).map fun x => grayN (vAt v c x) (f.d - 1 - e)
def grayCol (f : Fd) (v : Pv) (c x : Nat) : List Nat := (List.range f.d).map fun e => grayN (vAt v c x) (f.d - 1 - e)
def filStep (s : Nat × Nat) (g : Nat) : Nat × Nat := (2 * s.1 + (g + s.2) % 2, (g + s.2) % 2)
def filledM (l : List Nat) : Nat := (l.foldl filStep (0, 0)).1
theorem gray_back : ∀ d ∈ [1, 2, 3], ∀ x ∈ List.range (2 ^ d), filledM ((List.range d).map fun e => grayN x (d - 1 - e)) = x := by decide +kernel
theorem cover_all : ∀ w ∈ [1, 2, 3, 4], ∀ h ∈ [1, 2, 3, 4], ∀ t ∈ [1, 2], ∀ x ∈ List.range (w * h), ∃ i ∈ List.range (Fd.mk w h 1 1 t).tls, x ∈ pixsM (Fd.mk w h 1 1 t) i := by decide +kernel
theorem cover {f : Fd} (ok : f.Ok) {x : Nat} (hx : x < f.w * f.h) : ∃ i, i < f.tls ∧ x ∈ pixsM f i := by
  obtain ⟨i, h1, h2⟩ := cover_all f.w (mem14 ok.w) f.h (mem14 ok.h) f.t (mem12 ok.t) x (List.mem_range.mpr hx)
  exact ⟨i, List.mem_range.mp h1, h2⟩
theorem mem13 {n : Nat} (h : 1 ≤ n ∧ n ≤ 3) : n ∈ [1, 2, 3] := by
  have : n = 1 ∨ n = 2 ∨ n = 3 := by omega
  simpa using this
theorem col_back {f : Fd} {v : Pv} (ok : f.Ok) (hv : VOk f v) {c x : Nat} (hc : c < f.c) (hx : x < f.w * f.h) : filledM (grayCol f v c x) = vAt v c x :=
  gray_back f.d (mem13 ok.d) _ (List.mem_range.mpr (hv.at ok hc hx).1)
def sgnB (n : Nat) : Nat := if decide (n = 0) = true then 48 else 49
theorem bits_map (f : Fd) (v : Pv) (c i p : Nat) : bitsM f v (c, i, p) = (pixsM f i).map fun x => sgnB (storedN f v c x p) := rfl
theorem sgn_not (n : Nat) : sgnB n ≠ 63 := by unfold sgnB; split <;> decide
def bothN (a b : Nat) : Nat := if a = b then 0 else 1
theorem both0 (n : Nat) (h : n < 2) : bothN (sgnB n) 48 = n := by
  have : n = 0 ∨ n = 1 := by omega
  rcases this with e | e <;> subst e <;> decide
theorem both2 (a b : Nat) (ha : a < 2) (hb : b < 2) : bothN (sgnB a) (sgnB ((b + a) % 2)) = b := by
  have h1 : a = 0 ∨ a = 1 := by omega
  have h2 : b = 0 ∨ b = 1 := by omega
  rcases h1 with e | e <;> rcases h2 with g | g <;> subst e <;> subst g <;> decide
theorem g_zipS {σ : L2.St} {H : Hp} {tr : TA} {R : It → Hp → Prop} (q : tr σ H fun vs H1 => ∃ x y, vs = [.str x, .str y] ∧ R (ItP (min x.cps.size y.cps.size) (sgn x) (sgn y)) H1) : iZipS tr σ H R := q
theorem g_izip {K : PySem.W.Frag} {σ : L2.St} {H : Hp} {tr : TA} {R : It → Hp → Prop} (q : tr σ H fun vs H1 => ∃ a b xs ys, vs = [.ref a, .ref b] ∧ SqL K H1 a xs ∧ SqL K H1 b ys ∧ R (Itz K a b) H1) : iZip K tr σ H R := q
theorem bits_getD {f : Fd} {v : Pv} {c i p x : Nat} (hx : x < (pixsM f i).length) : (bitsM f v (c, i, p)).getD x 0 = sgnB (storedN f v c (pixsM f i)[x] p) := by
  rw [bits_map, List.getD_eq_getElem?_getD, List.getElem?_map, List.getElem?_eq_getElem hx]
  rfl
theorem txt_get {n e : Nat} {F : Nat → V} (he : e < n) : ((List.range n).map F).getD e .non = F e := by
  rw [List.getD_eq_getElem?_getD, List.getElem?_map, List.getElem?_range he]
  rfl

end PP
namespace PP
open PySem PySem.Spec PyProof.Rows L2
/-- a name's new value, in a state that is written out -/
local macro_rules | `(tactic| walk_at "set") => `(tactic| (simp only [List.set_cons_succ, List.set_cons_zero]; exact rfl))
local macro_rules | `(tactic| walk_at "start") => `(tactic| (refine g_start (σ' := ?sgm) ?hstart ?_; (case hstart => (simp only [start_eS, start_eN, start_e0]; exact rfl))))
/-- one step of a reading -/
local macro_rules | `(tactic| walk_at "g1") => `(tactic| first
  | ((with_reducible refine g_var (v := ?vv) ?hvv ?_); (case hvv => exact rfl))
  | ((with_reducible refine g_nxS (σ' := ?sgm) ?hset ?_); (case hset => walk_at "set"))
  | ((with_reducible refine g_gnameS (σ' := ?sgm) ?hset ?_); (case hset => walk_at "set"))
  | with_reducible first
    | refine g_c ?_
    | refine g_op ?_
    | refine g_I0 ?_
    | refine g_tst ?_
    | refine g_blc ?_
    | refine g_seq ?_
    | refine g_set ?_
    | refine g_ret ?_
    | refine g_if ?_
    | refine g_or ?_
    | refine g_eqS ?_
    | refine g_cons ?_
    | refine g_nil ?_
    | refine g_call ?_
    | refine g_fldC ?_
    | refine g_arf (by assumption) (by assumption) ?_
    | refine g_frd (by assumption) (by assumption) ?_
    | refine g_ifE ?_
    | refine g_tup ?_
    | refine g_rt ?_
    | refine g_nxt ?_
    | refine g_for ?_
    | refine g_ilst ?_
    | refine g_gname ?_
    | refine g_lc ?_
    | refine g_rg1 ?_
    | refine g_ifCI ?_
    | refine g_yes ?_
    | refine g_true ?_
    | refine g_false ?_
    | refine g_dF (by omega) ?_
  | with_reducible refine g_exI ?_
  | with_reducible refine g_exR ?_
  | ((with_reducible refine g_I ?hcc ?_); (case hcc => first | (intro hz; omega) | omega | exact Or.inl (by omega) | exact Or.inr (by omega) | exact ⟨by omega, by omega, by omega⟩ | exact ⟨by omega, by omega⟩)))
local macro_rules | `(tactic| walk_at "go") => `(tactic| repeat (walk_at "g1"))
/-- if c: x = an int, joined -/
local macro_rules | `(tactic| walk_at "when") => `(tactic| (refine g_whenI (i0 := ?wj) (i1 := ?wi) ?wo ?wh ?_; (case wo => exact rfl); (case wh => (intro hw Q' hq; walk_at "go"; exact hq))))
/-- a heap that has only grown -/
local macro_rules | `(tactic| walk_at "same") => `(tactic| repeat (first | exact Same.refl _ | assumption | refine L2.Same.new ?_ (by assumption)))
/-- what stands at a place of a heap that has only grown -/
local macro_rules | `(tactic| walk_at "get") => `(tactic| repeat (first | exact upd_same | assumption | refine upd_get (by assumption) ?_))
def sp_stored_texts (CF CA : Addr) : Sp := fun vs H Q _ => ∃ (a fr t : Addr) (f : Fd) (v : Pv) (m : Mp) (c i : Nat), vs = [.ref a, .int c, .int i] ∧ ArAt CF CA H a fr t f m ∧ f.Ok ∧ MOk f v m ∧ AllKnown f v m ∧ c < f.c ∧ i < f.tls ∧
  ∀ D H', Same H H' → H' D = some (.lst ((List.range f.d).map fun e => V.str (tx (bitsM f v (c, i, f.d - 1 - e))))) → Q (.ref D) H'
def sp_both : Sp := fun vs H Q _ => ∃ (a b : Nat), vs = [.str (tx [a]), .str (tx [b])] ∧ a ≠ 63 ∧ b ≠ 63 ∧ Q (.int (bothN a b : Nat)) H
def sp_gray_rows (CF CA : Addr) : Sp := fun vs H Q _ => ∃ (a fr t : Addr) (f : Fd) (v : Pv) (m : Mp) (c i : Nat), vs = [.ref a, .int c, .int i] ∧ ArAt CF CA H a fr t f m ∧ f.Ok ∧ MOk f v m ∧ AllKnown f v m ∧ c < f.c ∧ i < f.tls ∧
  ∀ D H', Same H H' → H D = none → RowsAt H' D ((List.range f.d).map (grayRow f v c i)) → Q (.ref D) H'
def sp_filled : Sp := fun vs H Q _ => ∃ (r : Addr) (l : List Nat) (n : Int), vs = [.ref r, .int n] ∧ H r = some (intsO l) ∧ (∀ x ∈ l, x < 2) ∧ l.length ≤ 3 ∧ Q (.int (filledM l : Nat)) H
def sp_middle : Sp := fun vs H Q _ => ∃ (r : Addr) (l : List Nat), vs = [.ref r] ∧ H r = some (intsO l) ∧ (∀ x ∈ l, x < 2) ∧ l.length ≤ 3 ∧ Q (.int (filledM l : Nat)) H
def sp_viewed : Sp := fun vs H Q _ => ∃ (r : Addr) (l : List Nat), vs = [.ref r, .str "shown"] ∧ H r = some (intsO l) ∧ (∀ x ∈ l, x < 2) ∧ l.length ≤ 3 ∧ Q (.int (filledM l : Nat)) H
theorem dS1 : decide (V.str "shown" = V.str "least") = false := decide_eq_false (fun h => by injection h with h; exact absurd h (by decide +kernel))
theorem dS2 : decide (V.str "shown" = V.str "greatest") = false := decide_eq_false (fun h => by injection h with h; exact absurd h (by decide +kernel))
section
variable {P : Program} {wd : World} {K : PySem.W.Frag} {mg : Str → Option Value} {base : Heap} {CF CA CP : Addr}

theorem sc_both : FnScope ["one", "other"] ["one", "other"] (defScope s_both) := ⟨rfl, rfl, rfl, by decide +kernel, rfl, by decide +kernel, by decide +kernel⟩
theorem cal_both (T : Tx K mg CF CA CP) : Cal P wd K mg base 1 "_both" ["one", "other"] sp_both := by
  refine T.cal (d := d_both) 67 rfl sc_both (fun _ _ _ _ _ _ us hl => match us, hl with | [_, _], _ => rfl) (fun vs H Q E h => ?_) (fun f cdv A outer s H vs Q E hr h => ?_)
  · obtain ⟨a, b, rfl, _⟩ := h
    rfl
  · obtain ⟨a, b, rfl, ha, hb, k⟩ := h
    refine ⟨_, (pss_cons (ps_if (PW.pt (pw_or (pt_cmpR op_eq (pv 0) (pe_tx txq) (nomark _)) (pw_or1 (pt_cmpR op_eq (pv 1) (pe_tx txq) (nomark _)))))
      (pss_one (ps_ret pe_non))
      pss_nil)
      (pss_one (ps_ret (pe_ifExp (pt_cmpR op_eq (pv 0) (pv 1) (nomark _)) pe_int pe_int)))), ?_⟩
    walk_at "start"
    walk_at "go"
    refine q_int k ?_
    unfold bothN
    by_cases h : a = b
    · rw [if_pos h, if_pos (decide_eq_true h)]
      rfl
    · rw [if_neg h, decide_eq_false h]
      rfl
theorem sc_stored_texts : FnScope ["arrived", "stored", "tile", "planes", "plane"] ["arrived", "stored", "tile"] (defScope s_stored_texts) := ⟨rfl, rfl, rfl, by decide +kernel, rfl, by decide +kernel, by decide +kernel⟩
theorem cal_stored_texts (T : Tx K mg CF CA CP) : Cal P wd K mg base 10 "_stored_texts" ["arrived", "stored", "tile"] (sp_stored_texts CF CA) := by
  refine T.cal (d := d_stored_texts) 66 rfl sc_stored_texts (fun _ _ _ _ _ _ us hl => match us, hl with | [_, _, _], _ => rfl) (fun vs H Q E h => ?_) (fun f cdv A outer s H vs Q E hr h => ?_)
  · obtain ⟨a, fr, t, f, v, m, c, i, rfl, _⟩ := h
    rfl
  · obtain ⟨a, fr, t, f, v, m, c, i, rfl, hA, ok, hm, hak, hc, hi, k⟩ := h
    refine ⟨_, (pss_cons (ps_set (i := 3) sc_stored_texts.nd rfl (by first | exact Or.inl rfl | exact Or.inr rfl) (pe_listRevR (by rfl) (T.nof _ (fre_list)) (by rfl) (T.nof _ (fre_reversed)) (prg_1 (by rfl) (T.nof _ (fre_range)) (pe_fldK (K := K) (pe_fldK (K := K) (pv 0) rfl) rfl))))
      (pss_one (ps_ret (pe_lc (own := [("plane", 4)]) rfl sc_stored_texts.nd (pi_listK (K := K) (pv 3)) (blkOk_by (N := ["arrived", "stored", "tile", "planes", "plane"]) (sc := defScope s_stored_texts) (by decide +kernel)) (fun _ _ _ _ _ => (pg_name (i := 4) sc_stored_texts.nd rfl (by first | exact Or.inl rfl | exact Or.inr rfl))) (fun _ _ _ _ _ => pts_nil) (fun _ _ _ _ _ => (pe_cal (cal_known_text T) hr (pa_cons (pv 0) (pa_cons (pe_tup (pa_cons (pv 1) (pa_cons (pv 2) (pa_cons (pv 4) pa_nil)))) pa_nil)))))))), ?_⟩
    walk_at "start"
    have hAo := hA.o; have hF := hA.f; have hT := hA.t
    have h2 := ok.d
    walk_at "go"
    refine g_lrev ?_
    walk_at "go"
    rw [revE]
    refine ⟨RgOk.of_le (by omega) (by omega) (by omega) (by omega), fun p hp => ?_⟩
    walk_at "go"
    refine ⟨⟨_, SqL.of upd_same⟩, ?_⟩
    refine g_lcV (fun e acc _ => acc = (List.range e).map fun e => V.str (tx (bitsM f v (c, i, f.d - 1 - e)))) (by rw [revL_len]; omega) (itv_l p (revL f.d)) (fun H2 S => S.seq (SqL.of upd_same)) rfl (fun D e acc H2 Nx he hD hH S hI hN KK hK R hR => ?_) (fun D acc H2 hD hH S hI => ?_)
    · rw [revL_len] at he
      rw [revL_get he]
      walk_at "go"
      refine hR _ _ ⟨rfl, ?_⟩
      walk_at "go"
      refine ⟨sz3, fun q hq => ?_⟩
      have S2 := ((same_new hp (o := .lst (revL f.d))).trans S).new hq (o := .tup [.int c, .int i, .int (f.d - 1 - e : Nat)])
      have hok : okKey f (c, i, f.d - 1 - e) := ⟨hc, hi, by show f.d - 1 - e < f.d; omega⟩
      obtain ⟨hd, _⟩ := prefix_find ok v hok (hm _ hok)
      obtain ⟨j, hj, e1, e2, e3⟩ := fnd_of ok v hok (hm _ hok)
      walk_at "go"
      refine ⟨a, fr, t, f, m, (c, i, f.d - 1 - e), .ref q, fnd f m (c, i, f.d - 1 - e), rfl, hA.up S2, ok, ⟨q, rfl, upd_same⟩, hok, hd, e2, by omega, fun H3 S3 => ?_⟩
      refine hK _ _ ((same_new hq).trans S3) ?_
      rw [hak _ hok, bits_len, Nat.sub_self, hI, List.range_succ, List.map_append]
      simp
    · rw [revL_len] at hI
      refine k D H2 ((same_new hp).trans S) ?_
      rw [hH, hI]
theorem sc_filled : FnScope ["grays", "fill", "value", "bit", "gray"] ["grays", "fill"] (defScope s_filled) := ⟨rfl, rfl, rfl, by decide +kernel, rfl, by decide +kernel, by decide +kernel⟩
theorem cal_filled (T : Tx K mg CF CA CP) : Cal P wd K mg base 1 "_filled" ["grays", "fill"] sp_filled := by
  refine T.cal (d := d_filled) 69 rfl sc_filled (fun _ _ _ _ _ _ us hl => match us, hl with | [_, _], _ => rfl) (fun vs H Q E h => ?_) (fun f cdv A outer s H vs Q E hr h => ?_)
  · obtain ⟨r, l, n, rfl, _⟩ := h
    rfl
  · obtain ⟨r, l, n, rfl, hr1, hl, hll, k⟩ := h
    refine ⟨_, (pss_cons (ps_set (i := 2) sc_filled.nd rfl (by first | exact Or.inl rfl | exact Or.inr rfl) pe_int)
      (pss_cons (ps_set (i := 3) sc_filled.nd rfl (by first | exact Or.inl rfl | exact Or.inr rfl) pe_int)
      (pss_cons (ps_for PassesOwn.never rfl (pi_listK (K := K) (pv 0)) (pg_name (i := 4) sc_filled.nd rfl (by first | exact Or.inl rfl | exact Or.inr rfl))
      (pss_cons (ps_set (i := 3) sc_filled.nd rfl (by first | exact Or.inl rfl | exact Or.inr rfl) (pe_ifExp (pt_cmpR op_isN (pv 4) pe_non (nomark _)) (pv 1) (pe_op op_xor (pv 4) (pv 3))))
      (pss_one (ps_set (i := 2) sc_filled.nd rfl (by first | exact Or.inl rfl | exact Or.inr rfl) (pe_op op_add (pe_op op_mul pe_int (pv 2)) (pv 3))))))
      (pss_one (ps_ret (pv 2)))))), ?_⟩
    walk_at "start"
    walk_at "go"
    refine ⟨⟨_, SqL.of hr1⟩, ?_⟩
    refine g_forV (fun i σ H' => H' = H ∧ ∃ e4, ((l.take i).foldl filStep (0, 0)).2 < 2 ∧ σ = [some (.ref r), some (.int n), some (.int (((l.take i).foldl filStep (0, 0)).1 : Nat)), some (.int (((l.take i).foldl filStep (0, 0)).2 : Nat)), e4]) (itv_l r _) (fun i σ H' h => by rw [h.1]; exact SqL.of hr1) ⟨rfl, none, show 0 < 2 by decide, rfl⟩ (fun i σ H' hi h => ?_) (fun σ H' h => ?_)
    · obtain ⟨e0, e4, hb, e⟩ := h
      subst e0 e
      rw [List.length_map] at hi
      have eg : (l.map fun (n : Nat) => V.int n).getD i .non = .int (l[i] : Nat) := by
        rw [List.getD_eq_getElem?_getD, List.getElem?_map, List.getElem?_eq_getElem hi]
        rfl
      have ef : (l.take (i + 1)).foldl filStep (0, 0) = filStep ((l.take i).foldl filStep (0, 0)) l[i] := by
        rw [List.take_succ_eq_append_getElem hi, List.foldl_append]
        rfl
      have hx := hl _ (List.getElem_mem hi)
      rw [eg]
      walk_at "go"
      refine ⟨rfl, ?_⟩
      have e : decide (V.int (l[i] : Nat) = V.non) = false := decide_eq_false (fun h => by cases h)
      rw [e]
      walk_at "go"
      rw [xor_all _ (List.mem_range.mpr hx) _ (List.mem_range.mpr hb)]
      refine ⟨rfl, some (.int (l[i] : Nat)), ?_, ?_⟩
      · rw [ef]
        exact Nat.mod_lt _ (by decide)
      · rw [ef]
        rfl
    · obtain ⟨e0, e4, hb, e⟩ := h
      subst e0 e
      rw [List.length_map, List.take_length]
      walk_at "go"
      exact k
theorem sc_middle : FnScope ["grays"] ["grays"] (defScope s_middle) := ⟨rfl, rfl, rfl, by decide +kernel, rfl, by decide +kernel, by decide +kernel⟩
theorem cal_middle (T : Tx K mg CF CA CP) : Cal P wd K mg base 2 "_middle" ["grays"] sp_middle := by
  refine T.cal (d := d_middle) 70 rfl sc_middle (fun _ _ _ _ _ _ us hl => match us, hl with | [_], _ => rfl) (fun vs H Q E h => ?_) (fun f cdv A outer s H vs Q E hr h => ?_)
  · obtain ⟨r, l, rfl, _⟩ := h
    rfl
  · obtain ⟨r, l, rfl, hr1, hl, hll, k⟩ := h
    refine ⟨_, (pss_one (ps_ret (pe_op op_fdivN (pe_op op_add (pe_cal (cal_filled T) hr (pa_cons (pv 0) (pa_cons pe_int pa_nil))) (pe_cal (cal_filled T) hr (pa_cons (pv 0) (pa_cons pe_int pa_nil)))) pe_int))), ?_⟩
    walk_at "start"
    walk_at "go"
    refine ⟨r, l, 0, rfl, hr1, hl, hll, ?_⟩
    walk_at "go"
    refine ⟨r, l, 1, rfl, hr1, hl, hll, ?_⟩
    walk_at "go"
    have e : (((filledM l : Nat) : Int) + ((filledM l : Nat) : Int)).fdiv 2 = ((filledM l : Nat) : Int) := by
      rw [Int.fdiv_eq_ediv_of_nonneg _ (by omega)]
      omega
    rw [e]
    exact k
theorem sc_viewed : FnScope ["grays", "which"] ["grays", "which"] (defScope s_viewed) := ⟨rfl, rfl, rfl, by decide +kernel, rfl, by decide +kernel, by decide +kernel⟩
theorem cal_viewed (T : Tx K mg CF CA CP) : Cal P wd K mg base 3 "_viewed" ["grays", "which"] sp_viewed := by
  refine T.cal (d := d_viewed) 72 rfl sc_viewed (fun _ _ _ _ _ _ us hl => match us, hl with | [_, _], _ => rfl) (fun vs H Q E h => ?_) (fun f cdv A outer s H vs Q E hr h => ?_)
  · obtain ⟨r, l, rfl, _⟩ := h
    rfl
  · obtain ⟨r, l, rfl, hr1, hl, hll, k⟩ := h
    refine ⟨_, (pss_cons (ps_if (pt_cmpR op_eq (pv 1) pe_str (nomark _))
      (pss_one (ps_ret (pe_cal (cal_filled T) hr (pa_cons (pv 0) (pa_cons pe_int pa_nil)))))
      pss_nil)
      (pss_one (ps_ret (pe_ifExp (pt_cmpR op_eq (pv 1) pe_str (nomark _)) (pe_cal (cal_filled T) hr (pa_cons (pv 0) (pa_cons pe_int pa_nil))) (pe_cal (cal_middle T) hr (pa_cons (pv 0) pa_nil)))))), ?_⟩
    walk_at "start"
    walk_at "go"
    refine ⟨rfl, ?_⟩
    rw [dS1]
    walk_at "go"
    refine ⟨rfl, ?_⟩
    rw [dS2]
    walk_at "go"
    exact ⟨r, l, rfl, hr1, hl, hll, k⟩
end

end PP
namespace PP
open PySem PySem.Spec PyProof.Rows L2
/-- a name's new value, in a state that is written out -/
local macro_rules | `(tactic| walk_at "set") => `(tactic| (simp only [List.set_cons_succ, List.set_cons_zero]; exact rfl))
local macro_rules | `(tactic| walk_at "start") => `(tactic| (refine g_start (σ' := ?sgm) ?hstart ?_; (case hstart => (simp only [start_eS, start_eN, start_e0]; exact rfl))))
/-- one step of a reading -/
local macro_rules | `(tactic| walk_at "g1") => `(tactic| first
  | ((with_reducible refine g_var (v := ?vv) ?hvv ?_); (case hvv => exact rfl))
  | ((with_reducible refine g_nxS (σ' := ?sgm) ?hset ?_); (case hset => walk_at "set"))
  | with_reducible first
    | refine g_c ?_
    | refine g_op ?_
    | refine g_tst ?_
    | refine g_blc ?_
    | refine g_seq ?_
    | refine g_set ?_
    | refine g_ret ?_
    | refine g_if ?_
    | refine g_or ?_
    | refine g_eqI ?_
    | refine g_cons ?_
    | refine g_nil ?_
    | refine g_call ?_
    | refine g_fldC ?_
    | refine g_arf (by assumption) (by assumption) ?_
    | refine g_frc (by assumption) (by assumption) ?_
    | refine g_ifE ?_
    | refine g_nxt ?_
    | refine g_istr ?_
    | refine g_istrc ?_
    | refine g_ilst ?_
    | refine g_gname ?_
    | refine g_gcons ?_
    | refine g_gnil ?_
    | refine g_lc ?_
    | refine g_ifCI ?_
    | refine g_yes ?_
    | refine g_true ?_
  | with_reducible refine g_exR ?_)
local macro_rules | `(tactic| walk_at "go") => `(tactic| repeat (walk_at "g1"))
/-- if c: x = an int, joined -/
local macro_rules | `(tactic| walk_at "when") => `(tactic| (refine g_whenI (i0 := ?wj) (i1 := ?wi) ?wo ?wh ?_; (case wo => exact rfl); (case wh => (intro hw Q' hq; walk_at "go"; exact hq))))
/-- a heap that has only grown -/
local macro_rules | `(tactic| walk_at "same") => `(tactic| repeat (first | exact Same.refl _ | assumption | refine L2.Same.new ?_ (by assumption)))
/-- what stands at a place of a heap that has only grown -/
local macro_rules | `(tactic| walk_at "get") => `(tactic| repeat (first | exact upd_same | assumption | refine upd_get (by assumption) ?_))
section
variable {P : Program} {wd : World} {K : PySem.W.Frag} {mg : Str → Option Value} {base : Heap} {CF CA CP : Addr}

theorem sc_gray_rows : FnScope ["arrived", "channel", "tile", "middle", "sign", "text", "side", "one", "other", "texts"] ["arrived", "channel", "tile"] (defScope s_gray_rows) := ⟨rfl, rfl, rfl, by decide +kernel, rfl, by decide +kernel, by decide +kernel⟩
theorem cal_gray_rows (T : Tx K mg CF CA CP) : Cal P wd K mg base 11 "_gray_rows" ["arrived", "channel", "tile"] (sp_gray_rows CF CA) := by
  refine T.cal (d := d_gray_rows) 68 rfl sc_gray_rows (fun _ _ _ _ _ _ us hl => match us, hl with | [_, _, _], _ => rfl) (fun vs H Q E h => ?_) (fun f cdv A outer s H vs Q E hr h => ?_)
  · obtain ⟨a, fr, t, f, v, m, c, i, rfl, _⟩ := h
    rfl
  · obtain ⟨a, fr, t, f, v, m, c, i, rfl, hA, ok, hm, hak, hc, hi, k⟩ := h
    refine ⟨_, (pss_cons (ps_set (i := 3) sc_gray_rows.nd rfl (by first | exact Or.inl rfl | exact Or.inr rfl) (pe_cal (cal_stored_texts T) hr (pa_cons (pv 0) (pa_cons pe_int (pa_cons (pv 2) pa_nil)))))
      (pss_cons (ps_if (PW.pt (pw_or (pt_cmpR op_eq (pe_fldK (K := K) (pe_fldK (K := K) (pv 0) rfl) rfl) pe_int (nomark _)) (pw_or1 (pt_cmpR op_eq (pv 1) pe_int (nomark _)))))
      (pss_one (ps_ret (pe_lc (own := [("text", 5)]) rfl sc_gray_rows.nd (pi_listK (K := K) (pv 3)) (blkOk_by (N := ["arrived", "channel", "tile", "middle", "sign", "text", "side", "one", "other", "texts"]) (sc := defScope s_gray_rows) (by decide +kernel)) (fun _ _ _ _ _ => (pg_name (i := 5) sc_gray_rows.nd rfl (by first | exact Or.inl rfl | exact Or.inr rfl))) (fun _ _ _ _ _ => pts_nil) (fun _ _ _ _ _ => (pe_lc (own := [("sign", 4)]) rfl sc_gray_rows.nd (pi_str (pv 5)) (blkOk_by (by rfl)) (fun _ _ _ _ _ => (pg_name (i := 4) sc_gray_rows.nd rfl (by first | exact Or.inl rfl | exact Or.inr rfl))) (fun _ _ _ _ _ => pts_nil) (fun _ _ _ _ _ => (pe_cal (cal_both T) hr (pa_cons (pv 4) (pa_cons (pe_tx tx0) pa_nil)))))))))
      pss_nil)
      (pss_cons (ps_set (i := 6) sc_gray_rows.nd rfl (by first | exact Or.inl rfl | exact Or.inr rfl) (pe_cal (cal_stored_texts T) hr (pa_cons (pv 0) (pa_cons (pe_ifExp (pt_cmpR op_eq (pv 1) pe_int (nomark _)) pe_int pe_int) (pa_cons (pv 2) pa_nil)))))
      (pss_one (ps_ret (pe_lc (own := [("texts", 9)]) rfl sc_gray_rows.nd (pi_zipN (by rfl) (T.nof _ (fre_zip)) (pa_cons (pv 3) (pa_cons (pv 6) pa_nil))) (blkOk_by (N := ["arrived", "channel", "tile", "middle", "sign", "text", "side", "one", "other", "texts"]) (sc := defScope s_gray_rows) (by decide +kernel)) (fun _ _ _ _ _ => (pg_name (i := 9) sc_gray_rows.nd rfl (by first | exact Or.inl rfl | exact Or.inr rfl))) (fun _ _ _ _ _ => pts_nil) (fun _ _ _ _ _ => (pe_lc (own := [("one", 7), ("other", 8)]) rfl sc_gray_rows.nd (pi_zipS (by rfl) (T.nof _ (fre_zip)) (pa_cons (pe_ix (ix_tupK (K := K)) (pv 9) pe_int (fun _ _ => rfl)) (pa_cons (pe_ix (ix_tupK (K := K)) (pv 9) pe_int (fun _ _ => rfl)) pa_nil))) (blkOk_by (by rfl)) (fun _ _ _ _ _ => (pg_tupK (K := K) (n := 2) (by rfl) (pgs_cons (pg_name (i := 7) sc_gray_rows.nd rfl (by first | exact Or.inl rfl | exact Or.inr rfl)) (pgs_cons (pg_name (i := 8) sc_gray_rows.nd rfl (by first | exact Or.inl rfl | exact Or.inr rfl)) pgs_nil)))) (fun _ _ _ _ _ => pts_nil) (fun _ _ _ _ _ => (pe_cal (cal_both T) hr (pa_cons (pv 7) (pa_cons (pv 8) pa_nil)))))))))))), ?_⟩
    walk_at "start"
    have hAo := hA.o; have hF := hA.f; have hT := hA.t
    have h2 := ok.d
    have hcc := ok.c
    have htm : (pixsM f i).length ≤ 4 := by
      rw [pixs_len]
      obtain ⟨_, _, h4, h5, _⟩ := ok.tile hi
      exact Nat.mul_le_mul h4.2 h5.2
    walk_at "go"
    refine ⟨a, fr, t, f, v, m, 0, i, rfl, hA, ok, hm, hak, by omega, hi, fun D1 H1 S1 hD1 => ?_⟩
    have hA1 := hA.up S1
    have hAo := hA1.o; have hF := hA1.f; have hT := hA1.t
    walk_at "go"
    refine g_orJ (b1 := decide ((f.c : Int) = 1)) (b2 := decide ((c : Int) = 1)) (fun _ R' q => ?_) ?_
    · walk_at "go"
      exact q
    refine g_ite (fun hb => ?_) (fun hb => ?_)
    · have hb : f.c = 1 ∨ c = 1 := by
        rcases (Bool.or_eq_true _ _).mp hb with h | h
        · have := of_decide_eq_true h
          omega
        · have := of_decide_eq_true h
          omega
      have hst : ∀ x p, storedN f v 0 x p = grayN (vAt v c x) p := by
        intro x p
        unfold storedN
        by_cases h : f.c = 1
        · have hc0 : c = 0 := by omega
          rw [if_pos h, hc0]
        · have hc1 : c = 1 := by omega
          rw [if_neg h, if_pos rfl, hc1]
      walk_at "go"
      refine ⟨⟨_, SqL.of hD1⟩, ?_⟩
      refine g_lcV (fun e acc H => Paired (RowV H) acc ((List.range e).map (grayRow f v c i))) (by simp; omega) (itv_l D1 _) (fun H2 S => S.seq (SqL.of hD1)) .nil (fun D e acc H2 Nx he hD hH S hI hN KK hK R hR => ?_) (fun D acc H2 hD hH S hI => ?_)
      · rw [List.length_map, List.length_range] at he
        have eg : ((List.range f.d).map fun e => V.str (tx (bitsM f v (0, i, f.d - 1 - e)))).getD e .non = .str (tx (bitsM f v (0, i, f.d - 1 - e))) := by
          rw [List.getD_eq_getElem?_getD, List.getElem?_map, List.getElem?_range he]
          rfl
        rw [eg]
        walk_at "go"
        refine hR _ _ ⟨rfl, ?_⟩
        walk_at "go"
        refine g_lcV (fun x acc _ => acc = ((grayRow f v c i e).map fun (n : Nat) => V.int n).take x) (by rw [bits_map, List.length_map]; omega) (itv_tx _) (fun _ _ => trivial) rfl (fun D5 x acc5 H5 Nx5 hx hD5 hH5 S5 hI5 hN5 KK5 hK5 R5 hR5 => ?_) (fun D5 acc5 H5 hD5 hH5 S5 hI5 => ?_)
        · rw [bits_map, List.length_map] at hx
          have eb : (bitsM f v (0, i, f.d - 1 - e)).getD x 0 = sgnB (storedN f v 0 (pixsM f i)[x] (f.d - 1 - e)) := by
            rw [bits_map, List.getD_eq_getElem?_getD, List.getElem?_map, List.getElem?_eq_getElem hx]
            rfl
          rw [eb]
          walk_at "go"
          refine hR5 _ _ ⟨rfl, ?_⟩
          walk_at "go"
          refine ⟨sgnB (storedN f v 0 (pixsM f i)[x] (f.d - 1 - e)), 48, rfl, sgn_not _, by decide, ?_⟩
          refine hK5 _ _ (Same.refl _) ?_
          rw [hst, both0 _ (grayN_lt _ _), hI5, List.take_succ_eq_append_getElem (by unfold grayRow; rw [List.length_map, List.length_map]; exact hx), List.getElem_map]
          unfold grayRow
          rw [List.getElem_map]
        · have hlen : ((grayRow f v c i e).map fun (n : Nat) => V.int n).length = (bitsM f v (0, i, f.d - 1 - e)).length := by
            rw [bits_map]
            unfold grayRow
            simp
          rw [← hlen, List.take_length] at hI5
          refine hK _ _ S5 ?_
          rw [List.range_succ, List.map_append]
          refine Paired.snoc (hI.mono fun _ _ q => q.up S5.hide) ⟨D5, rfl, ?_⟩
          rw [hide_ne (fun q => by rw [q, hH] at hD5; cases hD5), hH5, hI5]
          rfl
      · rw [List.length_map, List.length_range] at hI
        exact k D H2 (S1.trans S) (S1.free hD) ⟨acc, hH, hI.mono fun _ _ q => q.up same_hide⟩
    · have hb1 : f.c ≠ 1 ∧ c ≠ 1 := by
        rw [Bool.or_eq_false_iff] at hb
        have h1 := of_decide_eq_false hb.1
        have h2 := of_decide_eq_false hb.2
        omega
      have hc3 : f.c = 3 := by omega
      generalize hs : (if c = 0 then 1 else 2 : Nat) = sd
      have hsd : sd < f.c := by rw [← hs]; split <;> omega
      have hm0 : ∀ x p, storedN f v 0 x p = grayN (vAt v 1 x) p := by
        intro x p
        unfold storedN
        rw [if_neg hb1.1, if_pos rfl]
      have hsi : ∀ x p, storedN f v sd x p = (grayN (vAt v c x) p + grayN (vAt v 1 x) p) % 2 := by
        intro x p
        unfold storedN
        rw [if_neg hb1.1]
        by_cases h : c = 0
        · have e : sd = 1 := by rw [← hs, if_pos h]
          rw [e, if_neg (by decide), if_pos rfl, h]
        · have e : sd = 2 := by rw [← hs, if_neg h]
          have e2 : c = 2 := by omega
          rw [e, if_neg (by decide), if_neg (by decide), e2]
      have ei : (if decide ((c : Int) = 0) = true then (1 : Int) else 2) = ((sd : Nat) : Int) := by
        rw [← hs]
        by_cases h : c = 0
        · rw [if_pos h, h]
          rfl
        · rw [if_neg h, if_neg (by simp; omega)]
          rfl
      walk_at "go"
      rw [ei]
      walk_at "go"
      refine ⟨a, fr, t, f, v, m, sd, i, rfl, hA1, ok, hm, hak, hsd, hi, fun D2 H2 S2 hD2 => ?_⟩
      have S12 := S1.trans S2
      walk_at "go"
      refine g_izip ?_
      walk_at "go"
      have hz1 := SqL.of (K := K) (S2 _ _ hD1)
      have hz2 := SqL.of (K := K) hD2
      refine ⟨D1, D2, _, _, rfl, hz1, hz2, ?_⟩
      refine g_lcT (fun e acc H => Paired (RowV H) acc ((List.range e).map (grayRow f v c i))) (by rw [List.length_map, List.length_range]; omega) (itt_z (K := K) D1 D2 ((List.range f.d).map fun e => V.str (tx (bitsM f v (0, i, f.d - 1 - e)))) ((List.range f.d).map fun e => V.str (tx (bitsM f v (sd, i, f.d - 1 - e)))) (by simp)) (fun H3 S => ⟨S.seq hz1, S.seq hz2⟩) .nil (fun D e acc H3 T' Nx he hD hH hT' S hI hN KK hK R hR => ?_) (fun D acc H3 hD hH S hI => ?_)
      · rw [List.length_map, List.length_range] at he
        rw [txt_get he, txt_get he]
        walk_at "go"
        refine hR _ _ ⟨rfl, ?_⟩
        walk_at "go"
        refine g_zipS ?_
        walk_at "go"
        refine g_ixT 0 (SqT.of upd_same) rfl rfl ?_
        walk_at "go"
        refine g_ixT 1 (SqT.of upd_same) rfl rfl ?_
        walk_at "go"
        refine ⟨_, _, rfl, ?_⟩
        have el : min (tx (bitsM f v (0, i, f.d - 1 - e))).cps.size (tx (bitsM f v (sd, i, f.d - 1 - e))).cps.size = (pixsM f i).length := by
          rw [tx_size, tx_size, bits_map, bits_map, List.length_map, List.length_map, Nat.min_self]
        rw [el]
        refine g_lcT (fun x acc _ => acc = ((grayRow f v c i e).map fun (n : Nat) => V.int n).take x) (by omega) (itt_p _ _ _) (fun _ _ => trivial) rfl (fun D5 x acc5 H5 T5 Nx5 hx hD5 hH5 hT5 S5 hI5 hN5 KK5 hK5 R5 hR5 => ?_) (fun D5 acc5 H5 hD5 hH5 S5 hI5 => ?_)
        · rw [sgn_tx, sgn_tx, bits_getD hx, bits_getD hx]
          refine g_gtup (SqT.of upd_same) rfl ?_
          walk_at "go"
          refine hR5 _ _ ⟨rfl, ?_⟩
          walk_at "go"
          refine ⟨sgnB (storedN f v 0 (pixsM f i)[x] (f.d - 1 - e)), sgnB (storedN f v sd (pixsM f i)[x] (f.d - 1 - e)), rfl, sgn_not _, sgn_not _, ?_⟩
          refine hK5 _ _ (same_new hT5) ?_
          rw [hm0, hsi, both2 _ _ (grayN_lt _ _) (grayN_lt _ _), hI5, List.take_succ_eq_append_getElem (by unfold grayRow; rw [List.length_map, List.length_map]; exact hx), List.getElem_map]
          unfold grayRow
          rw [List.getElem_map]
        · have hlen : ((grayRow f v c i e).map fun (n : Nat) => V.int n).length = (pixsM f i).length := by
            unfold grayRow
            simp
          rw [← hlen, List.take_length] at hI5
          have ST := (same_new hT' (o := .tup [V.str (tx (bitsM f v (0, i, f.d - 1 - e))), V.str (tx (bitsM f v (sd, i, f.d - 1 - e)))])).trans S5
          refine hK _ _ ST ?_
          rw [List.range_succ, List.map_append]
          refine Paired.snoc (hI.mono fun _ _ q => q.up ST.hide) ⟨D5, rfl, ?_⟩
          have hHT := upd_get (u := .tup [V.str (tx (bitsM f v (0, i, f.d - 1 - e))), V.str (tx (bitsM f v (sd, i, f.d - 1 - e)))]) hT' hH
          rw [hide_ne (fun q => by rw [q, hHT] at hD5; cases hD5), hH5, hI5]
          rfl
      · rw [List.length_map, List.length_range] at hI
        exact k D H3 (S12.trans S) (S12.free hD) ⟨acc, hH, hI.mono fun _ _ q => q.up same_hide⟩
end

end PP
namespace PP
open PySem PySem.Spec PyProof.Rows L2
/-- a name's new value, in a state that is written out -/
local macro_rules | `(tactic| walk_at "set") => `(tactic| (simp only [List.set_cons_succ, List.set_cons_zero]; exact rfl))
local macro_rules | `(tactic| walk_at "start") => `(tactic| (refine g_start (σ' := ?sgm) ?hstart ?_; (case hstart => (simp only [start_eS, start_eN, start_e0]; exact rfl))))
/-- one step of a reading -/
local macro_rules | `(tactic| walk_at "g1") => `(tactic| first
  | ((with_reducible refine g_var (v := ?vv) ?hvv ?_); (case hvv => exact rfl))
  | ((with_reducible refine g_nxS (σ' := ?sgm) ?hset ?_); (case hset => walk_at "set"))
  | ((with_reducible refine g_gnameS (σ' := ?sgm) ?hset ?_); (case hset => walk_at "set"))
  | with_reducible first
    | refine g_op ?_
    | refine g_seq ?_
    | refine g_set ?_
    | refine g_ret ?_
    | refine g_cons ?_
    | refine g_nil ?_
    | refine g_call ?_
    | refine g_fldC ?_
    | refine g_met ?_
    | refine g_meF (by assumption) rfl ?_
    | refine g_arf (by assumption) (by assumption) ?_
    | refine g_lst ?_
    | refine g_nx ?_
    | refine g_rt ?_
    | refine g_asg ?_
    | refine g_for ?_
    | refine g_rng1 ?_
    | refine g_rngN (by omega) ?_
    | refine g_ilst ?_
    | refine g_gname ?_
    | refine g_gcons ?_
    | refine g_gnil ?_
    | refine g_lc ?_
    | refine g_yes ?_
    | refine g_true ?_
  | with_reducible refine g_exR ?_)
local macro_rules | `(tactic| walk_at "go") => `(tactic| repeat (walk_at "g1"))
/-- if c: x = an int, joined -/
local macro_rules | `(tactic| walk_at "when") => `(tactic| (refine g_whenI (i0 := ?wj) (i1 := ?wi) ?wo ?wh ?_; (case wo => exact rfl); (case wh => (intro hw Q' hq; walk_at "go"; exact hq))))
/-- a heap that has only grown -/
local macro_rules | `(tactic| walk_at "same") => `(tactic| repeat (first | exact Same.refl _ | assumption | refine L2.Same.new ?_ (by assumption)))
/-- what stands at a place of a heap that has only grown -/
local macro_rules | `(tactic| walk_at "get") => `(tactic| repeat (first | exact upd_same | assumption | refine upd_get (by assumption) ?_))
def sp_all_grays (CF CA : Addr) : Sp := fun vs H Q _ => ∃ (a fr t : Addr) (f : Fd) (v : Pv) (m : Mp) (c : Nat), vs = [.ref a, .int c] ∧ ArAt CF CA H a fr t f m ∧ f.Ok ∧ MOk f v m ∧ AllKnown f v m ∧ c < f.c ∧
  ∀ D H', Same H H' → RowsAt H' D ((List.range (f.w * f.h)).map (grayCol f v c)) → Q (.ref D) H'
def sp_view (CF CA CP : Addr) : Sp := fun vs H Q _ => ∃ (a fr t : Addr) (f : Fd) (v : Pv) (m : Mp), vs = [.ref a, .str "shown"] ∧ ArAt CF CA H a fr t f m ∧ f.Ok ∧ VOk f v ∧ MOk f v m ∧ AllKnown f v m ∧
  ∀ P H', Same H H' → PiAt CP H' P f v → Q (.ref P) H'
theorem ints_getD {l : List Nat} {x : Nat} (h : x < l.length) : ((l.map fun (n : Nat) => V.int n).getD x .non) = .int (l[x] : Nat) := by
  rw [List.getD_eq_getElem?_getD, List.getElem?_map, List.getElem?_eq_getElem h]
  rfl
theorem refs_ne {H : Hp} {F b : Addr} {rs : List V} {l : List Nat} (hF : H F = some (.lst rs)) (hr : ∀ y ∈ rs, ∃ b, y = .ref b) (hn : l ≠ []) (hb : H b = some (intsO l)) : b ≠ F := by
  intro e
  rw [e, hF] at hb
  injection hb with hb
  injection hb with hb
  cases l with
  | nil => exact hn rfl
  | cons n l =>
    obtain ⟨b, hb2⟩ := hr (.int n) (by rw [hb]; exact List.mem_cons_self)
    cases hb2
theorem pair_of {α β : Type} {F : α → β → Prop} {d : α} {d2 : β} : ∀ {l₁ : List α} {l₂ : List β}, l₁.length = l₂.length → (∀ i, i < l₁.length → F (l₁.getD i d) (l₂.getD i d2)) → Paired F l₁ l₂
  | [], [], _, _ => .nil
  | a :: l₁, b :: l₂, hl, h => .cons (h 0 (by simp)) (pair_of (by simpa using hl) fun i hi => h (i + 1) (by simpa using hi))
theorem g_ienum {K : PySem.W.Frag} {σ : L2.St} {H : Hp} {tr : TA} {R : It → Hp → Prop} (q : tr σ H fun vs H1 => ∃ a xs, vs = [.ref a] ∧ SqL K H1 a xs ∧ R (Ite K a) H1) : iEnum K tr σ H R := q
theorem getD_set {l : List V} {i j : Nat} {v : V} (hi : i < l.length) : (l.set i v).getD j .non = if i = j then v else l.getD j .non := by
  rw [List.getD_eq_getElem?_getD, List.getElem?_set, List.getD_eq_getElem?_getD]
  by_cases h : i = j
  · rw [if_pos h, if_pos h, if_pos (by omega)]
    rfl
  · rw [if_neg h, if_neg h]
theorem col_ne {f : Fd} {v : Pv} {c x : Nat} (ok : f.Ok) : grayCol f v c x ≠ [] := by
  have h := ok.d
  intro q
  have := congrArg List.length q
  unfold grayCol at this
  rw [List.length_map, List.length_range] at this
  simp at this
  omega
section
variable {P : Program} {wd : World} {K : PySem.W.Frag} {mg : Str → Option Value} {base : Heap} {CF CA CP : Addr}

theorem sc_all_grays : FnScope ["arrived", "channel", "found", "_", "tile", "rows", "place", "pixel", "row"] ["arrived", "channel"] (defScope s_all_grays) := ⟨rfl, rfl, rfl, by decide +kernel, rfl, by decide +kernel, by decide +kernel⟩
theorem cal_all_grays (T : Tx K mg CF CA CP) : Cal P wd K mg base 12 "_all_grays" ["arrived", "channel"] (sp_all_grays CF CA) := by
  refine T.cal (d := d_all_grays) 71 rfl sc_all_grays (fun _ _ _ _ _ _ us hl => match us, hl with | [_, _], _ => rfl) (fun vs H Q E h => ?_) (fun f cdv A outer s H vs Q E hr h => ?_)
  · obtain ⟨a, fr, t, f, v, m, c, rfl, _⟩ := h
    rfl
  · obtain ⟨a, fr, t, f, v, m, c, rfl, hA, ok, hm, hak, hc, k⟩ := h
    refine ⟨_, (pss_cons (ps_setLc (i := 2) (own := [("_", 3)]) rfl sc_all_grays.nd rfl rfl (sw_true rfl rfl rfl (by decide +kernel)) (pi_range1 (by rfl) (T.nof _ (fre_range)) (pa_cons (pe_mcal0 T.cF.cl (mcal_Frame_pixels T) hr (pe_fldK (K := K) (pv 0) rfl)) pa_nil)) (blkOk_by (N := ["arrived", "channel", "found", "_", "tile", "rows", "place", "pixel", "row"]) (sc := defScope s_all_grays) (by decide +kernel)) (fun _ _ _ _ _ => (pg_name (i := 3) sc_all_grays.nd rfl (by first | exact Or.inl rfl | exact Or.inr rfl))) (fun _ _ _ _ _ => pts_nil) (fun _ _ _ _ _ => (pe_lst pa_nil)))
      (pss_cons (ps_for PassesOwn.never rfl (pi_range1 (by rfl) (T.nof _ (fre_range)) (pa_cons (pe_mcal0 T.cF.cl (mcal_Frame_tiles T) hr (pe_fldK (K := K) (pv 0) rfl)) pa_nil)) (pg_name (i := 4) sc_all_grays.nd rfl (by first | exact Or.inl rfl | exact Or.inr rfl))
      (pss_cons (ps_set (i := 5) sc_all_grays.nd rfl (by first | exact Or.inl rfl | exact Or.inr rfl) (pe_cal (cal_gray_rows T) hr (pa_cons (pv 0) (pa_cons (pv 1) (pa_cons (pv 4) pa_nil)))))
      (pss_one (ps_for PassesOwn.never rfl (pi_enum (by rfl) (T.nof _ (fre_enumerate)) (pa_cons (pe_cal (cal_tile_pixels T) hr (pa_cons (pe_fldK (K := K) (pv 0) rfl) (pa_cons (pv 4) pa_nil))) pa_nil)) (pg_tupK (K := K) (n := 2) (by rfl) (pgs_cons (pg_name (i := 6) sc_all_grays.nd rfl (by first | exact Or.inl rfl | exact Or.inr rfl)) (pgs_cons (pg_name (i := 7) sc_all_grays.nd rfl (by first | exact Or.inl rfl | exact Or.inr rfl)) pgs_nil)))
      (pss_one (ps_asg (pe_lc (own := [("row", 8)]) rfl sc_all_grays.nd (pi_listK (K := K) (pv 5)) (blkOk_by (N := ["arrived", "channel", "found", "_", "tile", "rows", "place", "pixel", "row"]) (sc := defScope s_all_grays) (by decide +kernel)) (fun _ _ _ _ _ => (pg_name (i := 8) sc_all_grays.nd rfl (by first | exact Or.inl rfl | exact Or.inr rfl))) (fun _ _ _ _ _ => pts_nil) (fun _ _ _ _ _ => (pe_ix (ix_listK (K := K)) (pv 8) (pv 6) (fun _ _ => rfl)))) (pg_sub (pv 2) (pv 7) set_list)))))))
      (pss_one (ps_ret (pv 2))))), ?_⟩
    walk_at "start"
    have hAo := hA.o; have hF := hA.f; have hT := hA.t
    have hwh := ok.wh
    have htl := ok.tls
    have h2 := ok.d
    walk_at "go"
    refine ⟨f, fr, rfl, hF, ok, ?_⟩
    walk_at "go"
    refine g_lcV (fun i acc _ => acc.length = i ∧ ∀ y ∈ acc, ∃ b, y = V.ref b) (by omega) (itv_r0 (f.w * f.h)) (fun _ _ => trivial) ⟨rfl, fun y h => absurd h List.not_mem_nil⟩ (fun D i acc H2 Nx hi hD hH S hI hN KK hK R hR => ?_) (fun F acc H2 hF0 hFl S hI => ?_)
    · walk_at "go"
      refine hR _ _ ⟨rfl, ?_⟩
      walk_at "go"
      refine ⟨sz0, fun p hp => hK _ _ (same_new hp) ?_⟩
      refine ⟨by rw [List.length_append, hI.1]; rfl, fun y hy => ?_⟩
      rcases List.mem_append.mp hy with h | h
      · exact hI.2 y h
      · exact ⟨p, List.mem_singleton.mp h⟩
    have nF : H F = none := hF0
    have hA2 := hA.up S
    have hAo := hA2.o; have hF := hA2.f; have hT := hA2.t
    walk_at "go"
    refine ⟨f, fr, rfl, hF, ok, ?_⟩
    walk_at "go"
    refine g_forV (fun i σ H' => Same H H' ∧ ∃ (rs : List V) (e4 e5 e6 e7 : Option V), H' F = some (.lst rs) ∧ rs.length = f.w * f.h ∧ (∀ y ∈ rs, ∃ b, y = V.ref b) ∧ (∀ x, x < f.w * f.h → (∃ j, j < i ∧ x ∈ pixsM f j) → RowV H' (rs.getD x .non) (grayCol f v c x)) ∧ σ = [some (.ref a), some (.int c), some (.ref F), none, e4, e5, e6, e7, none]) (itv_r0 f.tls) (fun _ _ _ _ => trivial)
      ⟨S, acc, none, none, none, none, hFl, hI.1, hI.2, fun x _ h => (by obtain ⟨j, hj, _⟩ := h; exact absurd hj (Nat.not_lt_zero _)), rfl⟩ (fun i σ H' hi h => ?_) (fun σ H' h => ?_)
    · obtain ⟨S1, rs, e4, e5, e6, e7, hFl1, hrl, href, hrow, e⟩ := h
      subst e
      have hA3 := hA.up S1
      walk_at "go"
      refine ⟨a, fr, t, f, v, m, c, i, rfl, hA3, ok, hm, hak, hc, hi, fun D1 H3 S3 nD1 hD1 => ?_⟩
      have hA4 := hA3.up S3
      have hAo := hA4.o; have hF := hA4.f; have hT := hA4.t
      walk_at "go"
      refine g_ienum ?_
      walk_at "go"
      refine ⟨f, fr, i, rfl, hF, ok, hi, fun D2 H4 S4 hD2 => ?_⟩
      refine ⟨D2, _, rfl, SqL.of hD2, ?_⟩
      have hFl4 := S4 _ _ (S3 _ _ hFl1)
      have hD14 := hD1.up S4
      obtain ⟨rs1, hr1, hrs1⟩ := hD14
      have nD1F : D1 ≠ F := fun q => by rw [q, hFl1] at nD1; cases nD1
      have hpl : (pixsM f i).length = f.tw i * f.th i := pixs_len f i
      obtain ⟨_, _, ht4, ht5, _⟩ := ok.tile hi
      have hpp : 1 ≤ (pixsM f i).length ∧ (pixsM f i).length ≤ 4 := by
        rw [hpl]
        exact ⟨Nat.mul_le_mul ht4.1 ht5.1, Nat.mul_le_mul ht4.2 ht5.2⟩
      have hpn : pixsM f i ≠ [] := fun q => by rw [q] at hpp; simp at hpp
      have nD2F : D2 ≠ F := refs_ne hFl4 href hpn hD2
      have S14 := (S1.trans S3).trans S4
      refine g_forT (fun j σ H' => SameB F H4 H' ∧ Same H H' ∧ ∃ (rs : List V) (e6 e7 : Option V), H' F = some (.lst rs) ∧ rs.length = f.w * f.h ∧ (∀ y ∈ rs, ∃ b, y = V.ref b) ∧ (∀ x, x < f.w * f.h → ((∃ j, j < i ∧ x ∈ pixsM f j) ∨ x ∈ (pixsM f i).take j) → RowV H' (rs.getD x .non) (grayCol f v c x)) ∧
        σ = [some (.ref a), some (.int c), some (.ref F), none, some (.int (i : Nat)), some (.ref D1), e6, e7, none]) (itt_e D2 _) (fun j σ H' h => SqL.of (h.1 _ _ nD2F hD2)) ⟨.refl, S14, rs, e6, e7, hFl4, hrl, href, fun x hx h => ?_, rfl⟩ (fun j σ H' T1 hj h hT1 => ?_) (fun σ H' h => ?_)
      · rcases h with h | h
        · exact ((hrow x hx h).up S3).up S4
        · rw [List.take_zero] at h
          cases h
      · obtain ⟨SF, SH, rs', e6', e7', hF', hrl', href', hrow', e⟩ := h
        subst e
        rw [List.length_map] at hj
        rw [ints_getD hj]
        refine g_gtup (SqT.of upd_same) rfl ?_
        walk_at "go"
        have hF2 := upd_get (u := .tup [.int (j : Nat), .int ((pixsM f i)[j] : Nat)]) hT1 hF'
        have SF2 : SameB F H4 (upd H' T1 (.tup [.int (j : Nat), .int ((pixsM f i)[j] : Nat)])) := SF.then (same_new hT1)
        have SH2 : Same H (upd H' T1 (.tup [.int (j : Nat), .int ((pixsM f i)[j] : Nat)])) := SH.new hT1
        have hrow2 : ∀ x, x < f.w * f.h → ((∃ j, j < i ∧ x ∈ pixsM f j) ∨ x ∈ (pixsM f i).take j) → RowV (upd H' T1 (.tup [.int (j : Nat), .int ((pixsM f i)[j] : Nat)])) (rs'.getD x .non) (grayCol f v c x) := fun x hx h => (hrow' x hx h).up (same_new hT1)
        have hr12 := SF2 _ _ nD1F hr1
        generalize (upd H' T1 (.tup [.int (j : Nat), .int ((pixsM f i)[j] : Nat)])) = H5 at hF2 SF2 SH2 hrow2 hr12 ⊢
        refine ⟨⟨_, SqL.of hr12⟩, ?_⟩
        have hxl : (pixsM f i)[j] < f.w * f.h := pixs_lt ok hi _ (List.getElem_mem hj)
        have hr1l : rs1.length = f.d := by rw [hrs1.length, List.length_map, List.length_range]
        refine g_lcV (fun e acc _ => acc = ((grayCol f v c (pixsM f i)[j]).map fun (n : Nat) => V.int n).take e) (by omega) (itv_l D1 rs1) (fun H2 S => S.seq (SqL.of hr12)) rfl (fun D5 e acc H6 Nx he hD5 hH6 S6 hI6 hN KK hK R hR => ?_) (fun D5 acc H6 hD5 hH6 S6 hI6 => ?_)
        · have hcl : ((grayCol f v c (pixsM f i)[j]).map fun (n : Nat) => V.int n).length = f.d := by unfold grayCol; simp
          have he' : e < ((List.range f.d).map (grayRow f v c i)).length := by rw [← hrs1.length]; exact he
          obtain ⟨b, eb, hb⟩ := pair_at (d := V.non) hrs1 he'
          rw [eb]
          have nb : b ≠ F := by
            refine refs_ne hFl4 href ?_ hb
            rw [List.getElem_map]
            unfold grayRow
            intro q
            have := congrArg List.length q
            rw [List.length_map] at this
            simp at this
            rw [this] at hpp
            simp at hpp
          have hb5 := S6 _ _ (SF2 _ _ nb hb)
          walk_at "go"
          refine hR _ _ ⟨rfl, ?_⟩
          walk_at "go"
          have hg : ((((List.range f.d).map (grayRow f v c i))[e]).map fun (n : Nat) => V.int n)[j]? = some (.int (grayN (vAt v c (pixsM f i)[j]) (f.d - 1 - e) : Nat)) := by
            rw [List.getElem_map, List.getElem_range]
            unfold grayRow
            rw [List.getElem?_map, List.getElem?_map, List.getElem?_eq_getElem hj]
            rfl
          refine g_ixL j (SqL.of hb5) rfl hg ?_
          refine hK _ _ (Same.refl _) ?_
          rw [hI6, List.take_succ_eq_append_getElem (by rw [hcl]; omega), List.getElem_map]
          unfold grayCol
          rw [List.getElem_map, List.getElem_range]
        · have hcl : ((grayCol f v c (pixsM f i)[j]).map fun (n : Nat) => V.int n).length = f.d := by unfold grayCol; simp
          rw [hr1l, ← hcl, List.take_length] at hI6
          have nD5 : D5 ≠ F := fun q => by rw [q, hF2] at hD5; cases hD5
          refine g_gsub ?_
          walk_at "go"
          refine g_setL _ (S6 _ _ hF2) rfl (by rw [hrl']; exact hxl) ?_
          walk_at "go"
          refine ⟨(SF2.then S6).put, (SH2.trans S6).set nF, rs'.set (pixsM f i)[j] (.ref D5), _, _, upd_same, by rw [List.length_set]; exact hrl', fun y hy => ?_, fun x hx h => ?_, rfl⟩
          · rcases List.mem_or_eq_of_mem_set hy with q | q
            · exact href' y q
            · exact ⟨D5, q⟩
          · rw [getD_set (by rw [hrl']; exact hxl)]
            by_cases hxx : (pixsM f i)[j] = x
            · rw [if_pos hxx]
              refine ⟨D5, rfl, ?_⟩
              rw [upd_ne nD5, hH6, hI6, hxx]
              rfl
            · rw [if_neg hxx]
              have h' : (∃ j, j < i ∧ x ∈ pixsM f j) ∨ x ∈ (pixsM f i).take j := by
                rcases h with h | h
                · exact .inl h
                · rw [List.take_succ_eq_append_getElem hj] at h
                  rcases List.mem_append.mp h with h | h
                  · exact .inr h
                  · exact absurd (List.mem_singleton.mp h).symm hxx
              obtain ⟨b, eb, hb⟩ := hrow2 x hx h'
              have nb : b ≠ F := refs_ne hF2 href' (col_ne ok) hb
              exact ⟨b, eb, by rw [upd_ne nb]; exact S6 _ _ hb⟩
      · obtain ⟨SF, SH, rs', e6', e7', hF', hrl', href', hrow', e⟩ := h
        subst e
        rw [List.length_map, List.take_length] at hrow'
        refine ⟨SH, rs', _, _, _, _, hF', hrl', href', fun x hx h => hrow' x hx ?_, rfl⟩
        obtain ⟨j, hj, hm⟩ := h
        by_cases q : j = i
        · exact .inr (by rw [← q]; exact hm)
        · exact .inl ⟨j, by omega, hm⟩
    · obtain ⟨S1, rs, e4, e5, e6, e7, hFl1, hrl, href, hrow, e⟩ := h
      subst e
      walk_at "go"
      refine k F H' S1 ⟨rs, hFl1, pair_of (d := V.non) (d2 := []) (by rw [hrl, List.length_map, List.length_range]) fun x hx => ?_⟩
      rw [hrl] at hx
      obtain ⟨j, hj, hm⟩ := cover ok hx
      have := hrow x hx ⟨j, hj, hm⟩
      rw [List.getD_eq_getElem?_getD (l := (List.range (f.w * f.h)).map _), List.getElem?_map, List.getElem?_range hx]
      exact this
end

end PP
namespace PP
open PySem PySem.Spec PyProof.Rows L2
/-- a name's new value, in a state that is written out -/
local macro_rules | `(tactic| walk_at "set") => `(tactic| (simp only [List.set_cons_succ, List.set_cons_zero]; exact rfl))
local macro_rules | `(tactic| walk_at "start") => `(tactic| (refine g_start (σ' := ?sgm) ?hstart ?_; (case hstart => (simp only [start_eS, start_eN, start_e0]; exact rfl))))
/-- one step of a reading -/
local macro_rules | `(tactic| walk_at "g1") => `(tactic| first
  | ((with_reducible refine g_var (v := ?vv) ?hvv ?_); (case hvv => exact rfl))
  | ((with_reducible refine g_nxS (σ' := ?sgm) ?hset ?_); (case hset => walk_at "set"))
  | ((with_reducible refine g_gnameS (σ' := ?sgm) ?hset ?_); (case hset => walk_at "set"))
  | with_reducible first
    | refine g_c ?_
    | refine g_op ?_
    | refine g_tst ?_
    | refine g_blc ?_
    | refine g_seq ?_
    | refine g_set ?_
    | refine g_ret ?_
    | refine g_if ?_
    | refine g_and ?_
    | refine g_cons ?_
    | refine g_nil ?_
    | refine g_call ?_
    | refine g_fldC ?_
    | refine g_arf (by assumption) (by assumption) ?_
    | refine g_frw (by assumption) (by assumption) ?_
    | refine g_frh (by assumption) (by assumption) ?_
    | refine g_frd (by assumption) (by assumption) ?_
    | refine g_frc (by assumption) (by assumption) ?_
    | refine g_drop ?_
    | refine g_lst ?_
    | refine g_nx ?_
    | refine g_nxt ?_
    | refine g_for ?_
    | refine g_rng1 ?_
    | refine g_rngN (by omega) ?_
    | refine g_ilst ?_
    | refine g_gname ?_
    | refine g_lc ?_
    | refine g_yes ?_
    | refine g_true ?_
    | refine g_false ?_
    | refine g_nT ?_
    | refine g_nF ?_
  | with_reducible refine g_exR ?_)
local macro_rules | `(tactic| walk_at "go") => `(tactic| repeat (walk_at "g1"))
/-- if c: x = an int, joined -/
local macro_rules | `(tactic| walk_at "when") => `(tactic| (refine g_whenI (i0 := ?wj) (i1 := ?wi) ?wo ?wh ?_; (case wo => exact rfl); (case wh => (intro hw Q' hq; walk_at "go"; exact hq))))
/-- a heap that has only grown -/
local macro_rules | `(tactic| walk_at "same") => `(tactic| repeat (first | exact Same.refl _ | assumption | refine L2.Same.new ?_ (by assumption)))
/-- what stands at a place of a heap that has only grown -/
local macro_rules | `(tactic| walk_at "get") => `(tactic| repeat (first | exact upd_same | assumption | refine upd_get (by assumption) ?_))
theorem dS3 : decide (V.str "shown" = V.str "shown") = true := decide_eq_true rfl
theorem g_mk {σ : L2.St} {H : Hp} {Q : VK} {C : Addr} {sp : Sp} {E : XK} {t : TA} (q : t σ H fun vs H1 => ∀ x dx, H1 x = none → H1 dx = none → dx ≠ x →
  sp (.ref x :: (vs ++ [])) (upd (upd H1 dx (.own x)) x (.ins C dx [])) (fun v H2 => v = .non ∧ Q (.ref x) H2) E) : tMake C sp [] E t σ H Q := q
theorem made {H : Hp} {x dx C : Addr} (hx : H x = none) (hdx : H dx = none) (hne : dx ≠ x) : Same H (upd (upd H dx (.own x)) x (.ins C dx [])) ∧ (upd (upd H dx (.own x)) x (.ins C dx [])) x = some (.ins C dx []) := by
  refine ⟨(same_new hdx).new ?_, upd_same⟩
  rw [upd_ne (Ne.symm hne)]
  exact hx
theorem made_same {H H1 H2 : Hp} {x : Addr} (hx : H x = none) (S : Same H H1) (SB : SameB x H1 H2) : Same H H2 := fun b o e => SB b o (fun q => by rw [q, hx] at e; cases e) (S b o e)
section
variable {P : Program} {wd : World} {K : PySem.W.Frag} {mg : Str → Option Value} {base : Heap} {CF CA CP : Addr}

theorem sc_view : FnScope ["arrived", "which", "frame", "rows", "channel", "grays"] ["arrived", "which"] (defScope s_view) := ⟨rfl, rfl, rfl, by decide +kernel, rfl, by decide +kernel, by decide +kernel⟩
theorem cal_view (T : Tx K mg CF CA CP) : Cal P wd K mg base 13 "view" ["arrived", "which"] (sp_view CF CA CP) := by
  refine T.cal (d := d_view) 73 rfl sc_view (fun _ _ _ _ _ _ us hl => match us, hl with | [_, _], _ => rfl) (fun vs H Q E h => ?_) (fun f cdv A outer s H vs Q E hr h => ?_)
  · obtain ⟨a, fr, t, f, v, m, rfl, _⟩ := h
    rfl
  · obtain ⟨a, fr, t, f, v, m, rfl, hA, ok, hv, hm, hak, k⟩ := h
    refine ⟨_, (pss_cons (ps_if (PW.pt (pw_and (pt_cmpR op_ne (pv 1) pe_str (nomark _)) (pw_and (pt_cmpR op_ne (pv 1) pe_str (nomark _)) (pw_and1 (pt_cmpR op_ne (pv 1) pe_str (nomark _))))))
      pss_never
      pss_nil)
      (pss_cons (ps_set (i := 2) sc_view.nd rfl (by first | exact Or.inl rfl | exact Or.inr rfl) (pe_fldK (K := K) (pv 0) rfl))
      (pss_cons (ps_set (i := 3) sc_view.nd rfl (by first | exact Or.inl rfl | exact Or.inr rfl) (pe_lst pa_nil))
      (pss_cons (ps_for PassesOwn.never rfl (pi_range1 (by rfl) (T.nof _ (fre_range)) (pa_cons (pe_fldK (K := K) (pv 2) rfl) pa_nil)) (pg_name (i := 4) sc_view.nd rfl (by first | exact Or.inl rfl | exact Or.inr rfl))
      (pss_one (ps_expr (pe_bm PySem.F.plainAttrs_list PySem.F.slot_list_append PySem.F.type_list_append mt_append (pv 3) (pa_cons (pe_lc (own := [("grays", 5)]) rfl sc_view.nd (pi_listK (K := K) (pe_cal (cal_all_grays T) hr (pa_cons (pv 0) (pa_cons (pv 4) pa_nil)))) (blkOk_by (N := ["arrived", "which", "frame", "rows", "channel", "grays"]) (sc := defScope s_view) (by decide +kernel)) (fun _ _ _ _ _ => (pg_name (i := 5) sc_view.nd rfl (by first | exact Or.inl rfl | exact Or.inr rfl))) (fun _ _ _ _ _ => pts_nil) (fun _ _ _ _ _ => (pe_cal (cal_viewed T) hr (pa_cons (pv 5) (pa_cons (pv 1) pa_nil))))) pa_nil)))))
      (pss_one (ps_ret (pe_mk T.cP (mcal_Picture_init T) hr T.gP (pa_cons (pe_fldK (K := K) (pv 2) rfl) (pa_cons (pe_fldK (K := K) (pv 2) rfl) (pa_cons (pe_fldK (K := K) (pv 2) rfl) (pa_cons (pe_fldK (K := K) (pv 2) rfl) (pa_cons (pv 3) pa_nil)))))))))))), ?_⟩
    walk_at "start"
    have hAo := hA.o; have hF := hA.f; have hT := hA.t
    have hcc := ok.cc
    have hwh := ok.wh
    have hd := ok.d
    walk_at "go"
    refine ⟨rfl, ?_⟩
    rw [dS1]
    walk_at "go"
    refine ⟨rfl, ?_⟩
    rw [dS3]
    walk_at "go"
    refine ⟨sz0, fun D hD => ?_⟩
    have hA1 := hA.up (same_new hD (o := .lst []))
    have hAo := hA1.o; have hF := hA1.f; have hT := hA1.t
    walk_at "go"
    refine g_forV (fun i σ H' => Same H H' ∧ ∃ (rs : List V) (e4 : Option V), H' D = some (.lst rs) ∧ Paired (RowV H') rs (v.take i) ∧ (∀ y ∈ rs, ∃ b, y = V.ref b) ∧ i ≤ 3 ∧ σ = [some (.ref a), some (.str "shown"), some (.ref fr), some (.ref D), e4, none]) (itv_r0 f.c) (fun _ _ _ _ => trivial) ⟨same_new hD, [], none, upd_same, .nil, fun y h => absurd h List.not_mem_nil, by omega, rfl⟩ (fun i σ H' hi h => ?_) (fun σ H' h => ?_)
    · obtain ⟨S, rs, e4, hDl, hrs, href, h3, e⟩ := h
      subst e
      have hA2 := hA.up S
      have hiv : i < v.length := by rw [hv.c]; exact hi
      walk_at "go"
      refine g_bm ?_
      walk_at "go"
      refine ⟨.inl ⟨rfl, _, SqL.of hDl⟩, ?_⟩
      walk_at "go"
      refine ⟨a, fr, t, f, v, m, i, rfl, hA2, ok, hm, hak, hi, fun D2 H2 S2 hD2 => ?_⟩
      obtain ⟨rs2, hr2, hrs2⟩ := hD2
      walk_at "go"
      refine ⟨⟨_, SqL.of hr2⟩, ?_⟩
      have hr2l : rs2.length = f.w * f.h := by rw [hrs2.length, List.length_map, List.length_range]
      have hrl : (v.getD i []).length = f.w * f.h := row_len hv hi
      refine g_lcV (fun x acc _ => acc = ((v.getD i []).map fun (n : Nat) => V.int n).take x) (by omega) (itv_l D2 rs2) (fun H2 S => S.seq (SqL.of hr2)) rfl (fun D5 x acc H6 Nx hx hD5 hH6 S6 hI6 hN KK hK R hR => ?_) (fun D5 acc H6 hD5 hH6 S6 hI6 => ?_)
      · have hx' : x < ((List.range (f.w * f.h)).map (grayCol f v i)).length := by rw [← hrs2.length]; exact hx
        have hxw : x < f.w * f.h := by rw [← hr2l]; exact hx
        obtain ⟨b, eb, hb⟩ := pair_at (d := V.non) hrs2 hx'
        rw [List.getElem_map, List.getElem_range] at hb
        rw [eb]
        walk_at "go"
        refine hR _ _ ⟨rfl, ?_⟩
        walk_at "go"
        refine ⟨b, grayCol f v i x, rfl, S6 _ _ hb, fun y hy => ?_, by unfold grayCol; rw [List.length_map, List.length_range]; exact hd.2, ?_⟩
        · unfold grayCol at hy
          obtain ⟨e, _, q⟩ := List.mem_map.mp hy
          rw [← q]
          exact grayN_lt _ _
        · refine hK _ _ (Same.refl _) ?_
          rw [hI6, List.take_succ_eq_append_getElem (by rw [List.length_map, hrl]; exact hxw), List.getElem_map, col_back ok hv hi hxw]
          unfold vAt
          rw [List.getD_eq_getElem?_getD (l := v.getD i []), List.getElem?_eq_getElem (by rw [hrl]; exact hxw)]
          rfl
      · rw [hr2l] at hI6
        have e6 : acc = (v.getD i []).map fun (n : Nat) => V.int n := by
          rw [hI6]
          exact List.take_of_length_le (by rw [List.length_map, hrl]; exact Nat.le_refl _)
        have hDl6 := S6 _ _ (S2 _ _ hDl)
        have nD5 : D5 ≠ D := fun q => by rw [q, S2 _ _ hDl] at hD5; cases hD5
        have hv1 : (v.getD i []) ≠ [] := fun q => by
          rw [q] at hrl
          have h1 := ok.w; have h2 := ok.h
          have := Nat.mul_le_mul h1.1 h2.1
          simp at hrl
          omega
        walk_at "go"
        refine ⟨D, rs, _, rfl, rfl, hDl6, lt_sz (by rw [hrs.length, List.length_take]; omega), ?_⟩
        walk_at "go"
        have nH : H D = none := hD
        refine ⟨(((S.trans S2).trans S6)).set nH, rs ++ [.ref D5], _, upd_same, ?_, fun y hy => ?_, by omega, rfl⟩
        · rw [List.take_succ_eq_append_getElem hiv]
          have er : v[i] = v.getD i [] := by rw [List.getD_eq_getElem?_getD, List.getElem?_eq_getElem hiv]; rfl
          refine Paired.snoc ?_ ⟨D5, rfl, ?_⟩
          · have hr0 : ∀ row ∈ v.take i, row ≠ [] := fun row hrow q => by
              have := (hv.r row (List.mem_of_mem_take hrow)).1
              rw [q] at this
              have h1 := ok.w; have h2 := ok.h
              have := Nat.mul_le_mul h1.1 h2.1
              simp at *
              omega
            refine pair_of (d := V.non) (d2 := []) hrs.length fun x hx => ?_
            have hx2 : x < (v.take i).length := by rw [← hrs.length]; exact hx
            obtain ⟨b, eb, hb⟩ := pair_at (d := V.non) hrs hx2
            have nb : b ≠ D := refs_ne hDl href (hr0 _ (List.getElem_mem hx2)) hb
            refine ⟨b, eb, ?_⟩
            rw [upd_ne nb, List.getD_eq_getElem?_getD, List.getElem?_eq_getElem hx2]
            exact S6 _ _ (S2 _ _ hb)
          · rw [upd_ne nD5, hH6, e6, er]
            rfl
        · rcases List.mem_append.mp hy with q | q
          · exact href y q
          · exact ⟨D5, List.mem_singleton.mp q⟩
    · obtain ⟨S, rs, e4, hDl, hrs, href, h3, e⟩ := h
      subst e
      have hA2 := hA.up S
      have hAo := hA2.o; have hF := hA2.f; have hT := hA2.t
      rw [← hv.c, List.take_length] at hrs
      walk_at "go"
      refine g_mk ?_
      walk_at "go"
      intro x dx hx hdx hne
      obtain ⟨Sn, hxs⟩ := made (C := CP) hx hdx hne
      refine ⟨f, x, dx, D, v, rfl, ok, hv, RowsAt.up ⟨rs, hDl, hrs⟩ Sn, hxs, fun H'' SB hP => ⟨rfl, k x H'' (S.trans (made_same hx Sn SB)) hP⟩⟩
end

end PP
namespace PP
open PySem PySem.Spec PyProof.Rows L2
/-- a name's new value, in a state that is written out -/
local macro_rules | `(tactic| walk_at "set") => `(tactic| (simp only [List.set_cons_succ, List.set_cons_zero]; exact rfl))
local macro_rules | `(tactic| walk_at "start") => `(tactic| (refine g_start (σ' := ?sgm) ?hstart ?_; (case hstart => (simp only [start_eS, start_eN, start_e0]; exact rfl))))
/-- one step of a reading -/
local macro_rules | `(tactic| walk_at "g1") => `(tactic| first
  | fail)
local macro_rules | `(tactic| walk_at "go") => `(tactic| repeat (walk_at "g1"))
/-- if c: x = an int, joined -/
local macro_rules | `(tactic| walk_at "when") => `(tactic| (refine g_whenI (i0 := ?wj) (i1 := ?wi) ?wo ?wh ?_; (case wo => exact rfl); (case wh => (intro hw Q' hq; walk_at "go"; exact hq))))
/-- a heap that has only grown -/
local macro_rules | `(tactic| walk_at "same") => `(tactic| repeat (first | exact Same.refl _ | assumption | refine L2.Same.new ?_ (by assumption)))
/-- what stands at a place of a heap that has only grown -/
local macro_rules | `(tactic| walk_at "get") => `(tactic| repeat (first | exact upd_same | assumption | refine upd_get (by assumption) ?_))
/-! ### the law's own numbers -/
theorem fmod_bd (x : Int) {L : Int} (h : 0 < L) : 0 ≤ x.fmod L ∧ x.fmod L < L := by
  rw [Int.fmod_eq_emod_of_nonneg _ (by omega)]
  exact ⟨Int.emod_nonneg _ (by omega), Int.emod_lt_of_pos _ h⟩
theorem fmod_nn (x : Int) {L : Nat} (h : 1 ≤ L) : ∃ n : Nat, x.fmod (L : Int) = (n : Int) ∧ n < L := by
  obtain ⟨h1, h2⟩ := fmod_bd x (show (0 : Int) < (L : Int) by omega)
  exact ⟨(x.fmod (L : Int)).toNat, by omega, by omega⟩
theorem fmodN (a b : Nat) : (a : Int).fmod (b : Int) = ((a % b : Nat) : Int) := fmod_nat a b
def fL (f : Fd) : List V := [.int f.w, .int f.h, .int f.d, .int f.c, .int f.t]
theorem g_int1 {H : Hp} {Q : VK} {i : Int} (q : Q (.int i) H) : (∃ j, [V.int i] = [.int j] ∧ Q (.int j) H) ∨ ∃ k, [V.int i] = [.bl k] ∧ Q (.int (if k then 1 else 0)) H := .inl ⟨i, rfl, q⟩

end PP
namespace PP
open PySem PySem.Spec PyProof.Rows L2
/-- a name's new value, in a state that is written out -/
local macro_rules | `(tactic| walk_at "set") => `(tactic| (simp only [List.set_cons_succ, List.set_cons_zero]; exact rfl))
local macro_rules | `(tactic| walk_at "start") => `(tactic| (refine g_start (σ' := ?sgm) ?hstart ?_; (case hstart => (simp only [start_eS, start_eN, start_e0]; exact rfl))))
/-- one step of a reading -/
local macro_rules | `(tactic| walk_at "g1") => `(tactic| first
  | ((with_reducible refine g_var (v := ?vv) ?hvv ?_); (case hvv => exact rfl))
  | ((with_reducible refine g_nxS (σ' := ?sgm) ?hset ?_); (case hset => walk_at "set"))
  | ((with_reducible refine g_gnameS (σ' := ?sgm) ?hset ?_); (case hset => walk_at "set"))
  | with_reducible first
    | refine g_c ?_
    | refine g_op ?_
    | refine g_I0 ?_
    | refine g_tst ?_
    | refine g_blc ?_
    | refine g_seq ?_
    | refine g_set ?_
    | refine g_ret ?_
    | refine g_if ?_
    | refine g_and ?_
    | refine g_eqI ?_
    | refine g_B ?_
    | refine g_cons ?_
    | refine g_nil ?_
    | refine g_call ?_
    | refine g_cb ?_
    | refine g_andV ?_
    | refine g_ifE ?_
    | refine g_drop ?_
    | refine g_lst ?_
    | refine g_nx ?_
    | refine g_rt ?_
    | refine g_nxt ?_
    | refine g_for ?_
    | refine g_rng1 ?_
    | refine g_rngN (by omega) ?_
    | refine g_ifCI ?_
    | refine g_true ?_
  | ((with_reducible refine g_I ?hcc ?_); (case hcc => first | (intro hz; omega) | omega | exact Or.inl (by omega) | exact Or.inr (by omega) | exact ⟨by omega, by omega, by omega⟩ | exact ⟨by omega, by omega⟩)))
local macro_rules | `(tactic| walk_at "go") => `(tactic| repeat (walk_at "g1"))
/-- if c: x = an int, joined -/
local macro_rules | `(tactic| walk_at "when") => `(tactic| (refine g_whenI (i0 := ?wj) (i1 := ?wi) ?wo ?wh ?_; (case wo => exact rfl); (case wh => (intro hw Q' hq; walk_at "go"; exact hq))))
/-- a heap that has only grown -/
local macro_rules | `(tactic| walk_at "same") => `(tactic| repeat (first | exact Same.refl _ | assumption | refine L2.Same.new ?_ (by assumption)))
/-- what stands at a place of a heap that has only grown -/
local macro_rules | `(tactic| walk_at "get") => `(tactic| repeat (first | exact upd_same | assumption | refine upd_get (by assumption) ?_))
def sp_law_cell (K : PySem.W.Frag) : Sp := fun vs H Q _ => ∃ (a : Addr) (ns : List Int) (k : Nat), vs = [.ref a, .int k] ∧ SqL K H a (ns.map V.int) ∧ ∀ n : Int, Q (.int n) H
def sp_law_mixed : Sp := fun vs H Q _ => ∃ (a : Int) (k L : Nat), vs = [.int a, .int k, .int L] ∧ k ≤ 100000 ∧ 1 ≤ L ∧ ∀ n : Nat, n < L → Q (.int n) H
def sp_law_numbers : Sp := fun vs H Q _ => ∃ (a : Int) (n L : Nat), vs = [.int a, .int n, .int L] ∧ n ≤ 10000 ∧ 1 ≤ L ∧ L < 1000000000 ∧ ∀ D H' xs, Same H H' → H' D = some (intsO xs) → xs.length = n → (∀ x ∈ xs, x < L) → Q (.ref D) H'
def sp_law_tiny : Sp := fun vs H Q _ => ∃ (a : Int), vs = [.int a] ∧ ∀ D H' f, Same H H' → f.Ok → H' D = some (.lst (fL f)) → Q (.ref D) H'
def sp_law_tiles (K : PySem.W.Frag) : Sp := fun vs H Q _ => ∃ (f : Fd) (a : Addr), vs = [.ref a] ∧ f.Ok ∧ SqL K H a (fL f) ∧ Q (.int (f.tls : Nat)) H
def sp_law_is_int : Sp := fun vs H Q _ => ∃ (n : Int), vs = [.int n] ∧ Q (.bl true) H
theorem g_notV {σ : L2.St} {H : Hp} {Q : VK} {ta : TE} (q : ta σ H fun x H1 => ∃ c, x = .bl c ∧ Q (.bl (!c)) H1) : tNotV ta σ H Q := q
section
variable {P : Program} {wd : World} {K : PySem.W.Frag} {mg : Str → Option Value} {base : Heap} {CF CA CP : Addr}

theorem sc_law_cell : FnScope ["_law_script", "_law_k"] ["_law_script", "_law_k"] (defScope s_law_cell) := ⟨rfl, rfl, rfl, by decide +kernel, rfl, by decide +kernel, by decide +kernel⟩
theorem cal_law_cell (T : Tx K mg CF CA CP) : Cal P wd K mg base 1 "_law_cell" ["_law_script", "_law_k"] (sp_law_cell K) := by
  refine T.cal (d := d_law_cell) 74 rfl sc_law_cell (fun _ _ _ _ _ _ us hl => match us, hl with | [_, _], _ => rfl) (fun vs H Q E h => ?_) (fun f cdv A outer s H vs Q E hr h => ?_)
  · obtain ⟨a, ns, i, rfl, _⟩ := h
    rfl
  · obtain ⟨a, ns, i, rfl, hS, k⟩ := h
    refine ⟨_, (pss_cons (ps_if (pt_cmpR op_lt (pv 1) (pe_callB (call_len_seqK (K := K)) (by rfl) (T.nof _ (fre_len)) PySem.boot_len (pa_cons (pv 0) pa_nil)) (nomark _))
      (pss_one (ps_ret (pe_ix (ix_listK (K := K)) (pv 0) (pv 1) (fun _ _ => rfl))))
      pss_nil)
      (pss_one (ps_ret pe_int))), ?_⟩
    walk_at "start"
    walk_at "go"
    refine ⟨a, _, rfl, .inl hS, ?_⟩
    walk_at "go"
    refine g_ite (fun h => ?_) (fun h => ?_)
    · have h := of_decide_eq_true h
      rw [List.length_map] at h
      have hi : i < ns.length := by omega
      walk_at "go"
      refine g_ixL i hS rfl (show (ns.map V.int)[i]? = some (.int ns[i]) by rw [List.getElem?_map, List.getElem?_eq_getElem hi]; rfl) ?_
      exact k _
    · walk_at "go"
      exact k _
theorem sc_law_mixed : FnScope ["_law_number", "_law_k", "_law_limit", "_law_one", "_law_two"] ["_law_number", "_law_k", "_law_limit"] (defScope s_law_mixed) := ⟨rfl, rfl, rfl, by decide +kernel, rfl, by decide +kernel, by decide +kernel⟩
theorem cal_law_mixed (T : Tx K mg CF CA CP) : Cal P wd K mg base 1 "_law_mixed" ["_law_number", "_law_k", "_law_limit"] sp_law_mixed := by
  refine T.cal (d := d_law_mixed) 75 rfl sc_law_mixed (fun _ _ _ _ _ _ us hl => match us, hl with | [_, _, _], _ => rfl) (fun vs H Q E h => ?_) (fun f cdv A outer s H vs Q E hr h => ?_)
  · obtain ⟨a, i, L, rfl, _⟩ := h
    rfl
  · obtain ⟨a, i, L, rfl, hi, hL, k⟩ := h
    refine ⟨_, (pss_cons (ps_set (i := 3) sc_law_mixed.nd rfl (by first | exact Or.inl rfl | exact Or.inr rfl) (pe_op op_modN (pe_callTy call_int1 (by rfl) (T.nof _ (fre_int)) (by decide +kernel) (pa_cons (pe_op op_mul (pe_op op_add (pe_op op_add (pv 0) (pe_op op_mul pe_int (pv 1))) pe_int) pe_int) pa_nil)) pe_int))
      (pss_cons (ps_set (i := 4) sc_law_mixed.nd rfl (by first | exact Or.inl rfl | exact Or.inr rfl) (pe_op op_modN (pe_callTy call_int1 (by rfl) (T.nof _ (fre_int)) (by decide +kernel) (pa_cons (pe_op op_add (pe_op op_mul (pv 3) (pv 3)) (pe_op op_mul pe_int (pv 1))) pa_nil)) pe_int))
      (pss_one (ps_ret (pe_op op_modN (pe_op op_modN (pe_callTy call_int1 (by rfl) (T.nof _ (fre_int)) (by decide +kernel) (pa_cons (pe_op op_add (pe_op op_mul (pv 4) pe_int) (pv 3)) pa_nil)) pe_int) (pv 2)))))), ?_⟩
    walk_at "start"
    walk_at "go"
    refine .inl ⟨_, rfl, ?_⟩
    walk_at "go"
    obtain ⟨h1, h2⟩ := fmod_bd ((a + 7 * (i : Int) + 1) * 48271) (show (0 : Int) < 2147483647 by decide)
    walk_at "go"
    refine .inl ⟨_, rfl, ?_⟩
    walk_at "go"
    refine .inl ⟨_, rfl, ?_⟩
    walk_at "go"
    obtain ⟨n, e, hn⟩ := fmod_nn ((((((a + 7 * (i : Int) + 1) * 48271).fmod 2147483647 * ((a + 7 * (i : Int) + 1) * 48271).fmod 2147483647 + 69621 * (i : Int)).fmod 2147483399) * 40692 + ((a + 7 * (i : Int) + 1) * 48271).fmod 2147483647).fmod 1000000007) hL
    rw [e]
    exact k n hn
theorem sc_law_numbers : FnScope ["_law_cell_here", "_law_count", "_law_limit", "_law_rest", "_law_large", "_law_numbers_here", "_law_k"] ["_law_cell_here", "_law_count", "_law_limit"] (defScope s_law_numbers) := ⟨rfl, rfl, rfl, by decide +kernel, rfl, by decide +kernel, by decide +kernel⟩
theorem cal_law_numbers (T : Tx K mg CF CA CP) : Cal P wd K mg base 2 "_law_numbers" ["_law_cell_here", "_law_count", "_law_limit"] sp_law_numbers := by
  refine T.cal (d := d_law_numbers) 76 rfl sc_law_numbers (fun _ _ _ _ _ _ us hl => match us, hl with | [_, _, _], _ => rfl) (fun vs H Q E h => ?_) (fun f cdv A outer s H vs Q E hr h => ?_)
  · obtain ⟨a, n, L, rfl, _⟩ := h
    rfl
  · obtain ⟨a, n, L, rfl, hn, hL, hL2, k⟩ := h
    refine ⟨_, (pss_cons (ps_set (i := 3) sc_law_numbers.nd rfl (by first | exact Or.inl rfl | exact Or.inr rfl) (pe_callB call_abs (by rfl) (T.nof _ (fre_abs)) (by decide +kernel) (pa_cons (pv 0) pa_nil)))
      (pss_cons (ps_set (i := 4) sc_law_numbers.nd rfl (by first | exact Or.inl rfl | exact Or.inr rfl) (pe_cmpR op_ge (pv 3) (pe_op op_pow pe_int pe_int) (nomark _)))
      (pss_cons (ps_set (i := 5) sc_law_numbers.nd rfl (by first | exact Or.inl rfl | exact Or.inr rfl) (pe_lst pa_nil))
      (pss_cons (ps_for PassesOwn.never rfl (pi_range1 (by rfl) (T.nof _ (fre_range)) (pa_cons (pv 1) pa_nil)) (pg_name (i := 6) sc_law_numbers.nd rfl (by first | exact Or.inl rfl | exact Or.inr rfl))
      (pss_one (ps_if (PW.pt (pw_and (pt_val (pv 4)) (pw_and1 (pt_cmpR op_gt (pv 3) pe_int (nomark _)))))
      (pss_cons (ps_expr (pe_bm PySem.F.plainAttrs_list PySem.F.slot_list_append PySem.F.type_list_append mt_append (pv 5) (pa_cons (pe_op op_modN (pe_callTy call_int1 (by rfl) (T.nof _ (fre_int)) (by decide +kernel) (pa_cons (pv 3) pa_nil)) (pv 2)) pa_nil)))
      (pss_one (ps_set (i := 3) sc_law_numbers.nd rfl (by first | exact Or.inl rfl | exact Or.inr rfl) (pe_op op_fdivN (pv 3) (pv 2)))))
      (pss_one (ps_expr (pe_bm PySem.F.plainAttrs_list PySem.F.slot_list_append PySem.F.type_list_append mt_append (pv 5) (pa_cons (pe_cal (cal_law_mixed T) hr (pa_cons (pe_callB call_abs (by rfl) (T.nof _ (fre_abs)) (by decide +kernel) (pa_cons (pv 0) pa_nil)) (pa_cons (pv 6) (pa_cons (pv 2) pa_nil)))) pa_nil)))))))
      (pss_one (ps_ret (pv 5))))))), ?_⟩
    walk_at "start"
    walk_at "go"
    refine ⟨_, rfl, ?_⟩
    walk_at "go"
    refine ⟨sz0, fun D hD => ?_⟩
    walk_at "go"
    generalize hb : decide ((10 : Int) ^ (18 : Int).toNat ≤ (if a < 0 then -a else a)) = big
    generalize (if a < 0 then -a else a) = ab at hb ⊢
    refine g_forV (fun i σ H' => Same H H' ∧ ∃ (xs : List Nat) (rest : Int) (e6 : Option V), H' D = some (intsO xs) ∧ xs.length = i ∧ (∀ x ∈ xs, x < L) ∧ σ = [some (.int a), some (.int n), some (.int L), some (.int rest), some (.bl big), some (.ref D), e6]) (itv_r0 n) (fun _ _ _ _ => trivial) ⟨same_new hD, [], _, none, upd_same, rfl, fun x h => absurd h List.not_mem_nil, rfl⟩ (fun i σ H' hi h => ?_) (fun σ H' h => ?_)
    · obtain ⟨S, xs, rest, e6, hDl, hl, hx, e⟩ := h
      subst e
      have nD : H D = none := hD
      have add : ∀ y : Nat, y < L → (upd H' D (.lst ((xs.map fun (n : Nat) => V.int n) ++ [.int y]))) D = some (intsO (xs ++ [y])) ∧ (xs ++ [y]).length = i + 1 ∧ ∀ x ∈ xs ++ [y], x < L := fun y hy => by
        refine ⟨by rw [upd_same]; unfold intsO; rw [List.map_append]; rfl, by rw [List.length_append, hl]; rfl, fun x h => ?_⟩
        rcases List.mem_append.mp h with h | h
        · exact hx x h
        · rw [List.mem_singleton.mp h]
          exact hy
      walk_at "go"
      refine g_andJ (b2 := decide (0 < rest)) (fun _ R' q => ?_) ?_
      · walk_at "go"
        exact q
      refine g_ite (fun h1 => ?_) (fun h1 => ?_)
      · walk_at "go"
        refine g_bm ?_
        walk_at "go"
        refine ⟨.inl ⟨rfl, _, SqL.of hDl⟩, ?_⟩
        walk_at "go"
        refine .inl ⟨_, rfl, ?_⟩
        walk_at "go"
        obtain ⟨y, ey, hy⟩ := fmod_nn rest hL
        obtain ⟨a1, a2, a3⟩ := add y hy
        rw [ey]
        refine ⟨D, _, _, rfl, rfl, hDl, lt_sz (by rw [List.length_map, hl]; omega), ?_⟩
        walk_at "go"
        exact ⟨S.set nD, xs ++ [y], _, _, a1, a2, a3, rfl⟩
      · walk_at "go"
        refine g_bm ?_
        walk_at "go"
        refine ⟨.inl ⟨rfl, _, SqL.of hDl⟩, ?_⟩
        walk_at "go"
        refine ⟨_, rfl, ?_⟩
        walk_at "go"
        refine ⟨_, i, L, rfl, by omega, hL, fun y hy => ?_⟩
        obtain ⟨a1, a2, a3⟩ := add y hy
        walk_at "go"
        refine ⟨D, _, _, rfl, rfl, hDl, lt_sz (by rw [List.length_map, hl]; omega), ?_⟩
        walk_at "go"
        exact ⟨S.set nD, xs ++ [y], _, _, a1, a2, a3, rfl⟩
    · obtain ⟨S, xs, rest, e6, hDl, hl, hx, e⟩ := h
      subst e
      walk_at "go"
      exact k D H' xs S hDl hl hx
theorem sc_law_tiny : FnScope ["_law_cell_here", "_law_row", "_law_channels", "_law_depth"] ["_law_cell_here"] (defScope s_law_tiny) := ⟨rfl, rfl, rfl, by decide +kernel, rfl, by decide +kernel, by decide +kernel⟩
theorem cal_law_tiny (T : Tx K mg CF CA CP) : Cal P wd K mg base 3 "_law_tiny" ["_law_cell_here"] sp_law_tiny := by
  refine T.cal (d := d_law_tiny) 77 rfl sc_law_tiny (fun _ _ _ _ _ _ us hl => match us, hl with | [_], _ => rfl) (fun vs H Q E h => ?_) (fun f cdv A outer s H vs Q E hr h => ?_)
  · obtain ⟨a, rfl, _⟩ := h
    rfl
  · obtain ⟨a, rfl, k⟩ := h
    refine ⟨_, (pss_cons (ps_set (i := 1) sc_law_tiny.nd rfl (by first | exact Or.inl rfl | exact Or.inr rfl) (pe_cal (cal_law_numbers T) hr (pa_cons (pv 0) (pa_cons pe_int (pa_cons pe_int pa_nil)))))
      (pss_cons (ps_set (i := 2) sc_law_tiny.nd rfl (by first | exact Or.inl rfl | exact Or.inr rfl) (pe_op op_add pe_int (pe_op op_mul pe_int (pe_op op_modN (pe_ix (ix_listK (K := K)) (pv 1) pe_int (fun _ _ => rfl)) pe_int))))
      (pss_cons (ps_set (i := 3) sc_law_tiny.nd rfl (by first | exact Or.inl rfl | exact Or.inr rfl) (pe_op op_add pe_int (pe_op op_modN (pe_ix (ix_listK (K := K)) (pv 1) pe_int (fun _ _ => rfl)) (pe_ifExp (pt_cmpR op_eq (pv 2) pe_int (nomark _)) pe_int pe_int))))
      (pss_one (ps_ret (pe_lst (pa_cons (pe_op op_add pe_int (pe_op op_modN (pe_ix (ix_listK (K := K)) (pv 1) pe_int (fun _ _ => rfl)) pe_int)) (pa_cons (pe_op op_add pe_int (pe_op op_modN (pe_ix (ix_listK (K := K)) (pv 1) pe_int (fun _ _ => rfl)) pe_int)) (pa_cons (pv 3) (pa_cons (pv 2) (pa_cons (pe_op op_add pe_int (pe_op op_modN (pe_ix (ix_listK (K := K)) (pv 1) pe_int (fun _ _ => rfl)) pe_int)) pa_nil))))))))))), ?_⟩
    walk_at "start"
    walk_at "go"
    refine ⟨a, 5, 960, rfl, by decide, by decide, by decide, fun D H1 xs S1 hD hl hx => ?_⟩
    walk_at "go"
    refine g_ixL 3 (SqL.of hD) rfl (ints_get (by omega)) ?_
    walk_at "go"
    have e2 : ∀ x : Nat, ((x : Int)).fmod 2 = ((x % 2 : Nat) : Int) := fun x => fmodN x 2
    have e3 : ∀ x : Nat, ((x : Int)).fmod 3 = ((x % 3 : Nat) : Int) := fun x => fmodN x 3
    have e4 : ∀ x : Nat, ((x : Int)).fmod 4 = ((x % 4 : Nat) : Int) := fun x => fmodN x 4
    rw [e2]
    have hq : xs.getD 3 0 % 2 = 0 ∨ xs.getD 3 0 % 2 = 1 := by omega
    rcases hq with hq | hq
    · rw [hq]
      walk_at "go"
      refine g_ixL 2 (SqL.of hD) rfl (ints_get (by omega)) ?_
      walk_at "go"
      have ed : (if decide ((1 : Int) + 2 * ((0 : Nat) : Int) = 1) = true then (3 : Int) else 2) = 3 := by decide
      rw [ed, e3]
      refine g_ixL 0 (SqL.of hD) rfl (ints_get (by omega)) ?_
      walk_at "go"
      rw [e4]
      walk_at "go"
      refine g_ixL 1 (SqL.of hD) rfl (ints_get (by omega)) ?_
      walk_at "go"
      rw [e4]
      walk_at "go"
      refine g_ixL 4 (SqL.of hD) rfl (ints_get (by omega)) ?_
      walk_at "go"
      rw [e2]
      walk_at "go"
      refine ⟨sz5, fun p hp => k p _ ⟨1 + xs.getD 0 0 % 4, 1 + xs.getD 1 0 % 4, 1 + xs.getD 2 0 % 3, 1, 1 + xs.getD 4 0 % 2⟩ (S1.new hp) ⟨?_, ?_, ?_, .inl rfl, ?_⟩ upd_same⟩
      all_goals show 1 ≤ _ ∧ _ ≤ _
      all_goals simp only []
      all_goals omega
    · rw [hq]
      walk_at "go"
      refine g_ixL 2 (SqL.of hD) rfl (ints_get (by omega)) ?_
      walk_at "go"
      have ed : (if decide ((1 : Int) + 2 * ((1 : Nat) : Int) = 1) = true then (3 : Int) else 2) = 2 := by decide
      rw [ed, e2]
      refine g_ixL 0 (SqL.of hD) rfl (ints_get (by omega)) ?_
      walk_at "go"
      rw [e4]
      walk_at "go"
      refine g_ixL 1 (SqL.of hD) rfl (ints_get (by omega)) ?_
      walk_at "go"
      rw [e4]
      walk_at "go"
      refine g_ixL 4 (SqL.of hD) rfl (ints_get (by omega)) ?_
      walk_at "go"
      rw [e2]
      walk_at "go"
      refine ⟨sz5, fun p hp => k p _ ⟨1 + xs.getD 0 0 % 4, 1 + xs.getD 1 0 % 4, 1 + xs.getD 2 0 % 2, 3, 1 + xs.getD 4 0 % 2⟩ (S1.new hp) ⟨?_, ?_, ?_, .inr rfl, ?_⟩ upd_same⟩
      all_goals show 1 ≤ _ ∧ _ ≤ _
      all_goals simp only []
      all_goals omega
theorem sc_law_tiles : FnScope ["_law_sizes"] ["_law_sizes"] (defScope s_law_tiles) := ⟨rfl, rfl, rfl, by decide +kernel, rfl, by decide +kernel, by decide +kernel⟩
theorem cal_law_tiles (T : Tx K mg CF CA CP) : Cal P wd K mg base 1 "_law_tiles" ["_law_sizes"] (sp_law_tiles K) := by
  refine T.cal (d := d_law_tiles) 79 rfl sc_law_tiles (fun _ _ _ _ _ _ us hl => match us, hl with | [_], _ => rfl) (fun vs H Q E h => ?_) (fun f cdv A outer s H vs Q E hr h => ?_)
  · obtain ⟨f, a, rfl, _⟩ := h
    rfl
  · obtain ⟨f, a, rfl, ok, hS, k⟩ := h
    refine ⟨_, (pss_one (ps_ret (pe_op op_mul (pe_op op_fdivN (pe_op op_sub (pe_op op_add (pe_ix (ix_listK (K := K)) (pv 0) pe_int (fun _ _ => rfl)) (pe_ix (ix_listK (K := K)) (pv 0) pe_int (fun _ _ => rfl))) pe_int) (pe_ix (ix_listK (K := K)) (pv 0) pe_int (fun _ _ => rfl))) (pe_op op_fdivN (pe_op op_sub (pe_op op_add (pe_ix (ix_listK (K := K)) (pv 0) pe_int (fun _ _ => rfl)) (pe_ix (ix_listK (K := K)) (pv 0) pe_int (fun _ _ => rfl))) pe_int) (pe_ix (ix_listK (K := K)) (pv 0) pe_int (fun _ _ => rfl)))))), ?_⟩
    walk_at "start"
    have h1 := ok.w; have h2 := ok.h; have h3 := ok.t; have h4 := ok.acr; have h5 := ok.dwn
    walk_at "go"
    refine g_ixL 0 hS rfl rfl ?_
    walk_at "go"
    refine g_ixL 4 hS rfl rfl ?_
    walk_at "go"
    refine g_ixL 4 hS rfl rfl ?_
    walk_at "go"
    refine g_ixL 1 hS rfl rfl ?_
    walk_at "go"
    refine g_ixL 4 hS rfl rfl ?_
    walk_at "go"
    refine g_ixL 4 hS rfl rfl ?_
    walk_at "go"
    rw [fdiv_nat (a := f.w + f.t - 1) (by omega), fdiv_nat (a := f.h + f.t - 1) (by omega)]
    show rI CMul _ (V.int (f.acr : Nat)) (V.int (f.dwn : Nat)) H _
    walk_at "go"
    exact k
theorem sc_law_is_int : FnScope ["_law_actual"] ["_law_actual"] (defScope s_law_is_int) := ⟨rfl, rfl, rfl, by decide +kernel, rfl, by decide +kernel, by decide +kernel⟩
theorem cal_law_is_int (T : Tx K mg CF CA CP) : Cal P wd K mg base 1 "_law_is_int" ["_law_actual"] sp_law_is_int := by
  refine T.cal (d := d_law_is_int) 85 rfl sc_law_is_int (fun _ _ _ _ _ _ us hl => match us, hl with | [_], _ => rfl) (fun vs H Q E h => ?_) (fun f cdv A outer s H vs Q E hr h => ?_)
  · obtain ⟨n, rfl, _⟩ := h
    rfl
  · obtain ⟨n, rfl, k⟩ := h
    refine ⟨_, (pss_one (ps_ret (pe_and (pe_callB call_isi (by rfl) (T.nof _ (fre_isinstance)) (by decide +kernel) (pa_cons (pv 0) (pa_cons (pe_bltn (v := .ty "int") (u := .type "int") (by rfl) (T.nof _ (fre_int)) (by decide +kernel) rfl) pa_nil))) (pe_one (pe_not (pe_callB call_isi (by rfl) (T.nof _ (fre_isinstance)) (by decide +kernel) (pa_cons (pv 0) (pa_cons (pe_bltn (v := .ty "bool") (u := .type "bool") (by rfl) (T.nof _ (fre_bool)) (by decide +kernel) rfl) pa_nil)))))))), ?_⟩
    walk_at "start"
    walk_at "go"
    refine ⟨_, _, .type "int", .type "int", true, rfl, .ty "int", .base (.int n), by rfl, ?_⟩
    walk_at "go"
    refine g_notV ?_
    walk_at "go"
    refine ⟨_, _, .type "int", .type "bool", false, rfl, .ty "bool", .base (.int n), by rfl, ?_⟩
    walk_at "go"
    exact k
end

end PP
namespace PP
open PySem PySem.Spec PyProof.Rows L2
/-- a name's new value, in a state that is written out -/
local macro_rules | `(tactic| walk_at "set") => `(tactic| (simp only [List.set_cons_succ, List.set_cons_zero]; exact rfl))
local macro_rules | `(tactic| walk_at "start") => `(tactic| (refine g_start (σ' := ?sgm) ?hstart ?_; (case hstart => (simp only [start_eS, start_eN, start_e0]; exact rfl))))
/-- one step of a reading -/
local macro_rules | `(tactic| walk_at "g1") => `(tactic| first
  | fail)
local macro_rules | `(tactic| walk_at "go") => `(tactic| repeat (walk_at "g1"))
/-- if c: x = an int, joined -/
local macro_rules | `(tactic| walk_at "when") => `(tactic| (refine g_whenI (i0 := ?wj) (i1 := ?wi) ?wo ?wh ?_; (case wo => exact rfl); (case wh => (intro hw Q' hq; walk_at "go"; exact hq))))
/-- a heap that has only grown -/
local macro_rules | `(tactic| walk_at "same") => `(tactic| repeat (first | exact Same.refl _ | assumption | refine L2.Same.new ?_ (by assumption)))
/-- what stands at a place of a heap that has only grown -/
local macro_rules | `(tactic| walk_at "get") => `(tactic| repeat (first | exact upd_same | assumption | refine upd_get (by assumption) ?_))
/-! ### what has been cut -/
structure MInv (f : Fd) (v : Pv) (m : Mp) : Prop where
  ok : MOk f v m
  nd : (m.map (·.1)).Nodup
  key : ∀ e ∈ m, okKey f e.1 ∧ e.2 <+: cdM f v e.1
theorem getM_nil (k : K3) : getM [] k = [] := rfl
theorem minv_nil (f : Fd) (v : Pv) : MInv f v [] := ⟨fun k _ => List.nil_prefix, List.nodup_nil, fun _ h => absurd h List.not_mem_nil⟩
theorem getO_cons (e : K3 × List Nat) (m : Mp) (k : K3) : getO (e :: m) k = if e.1 = k then some e.2 else getO m k := by
  unfold getO
  rw [List.find?_cons]
  by_cases h : e.1 = k
  · rw [if_pos h, decide_eq_true h]
    rfl
  · rw [if_neg h, decide_eq_false h]
theorem getO_none {m : Mp} {k : K3} (h : k ∉ m.map (·.1)) : getO m k = none := by
  unfold getO
  have : m.find? (fun e => decide (e.1 = k)) = none := by
    rw [List.find?_eq_none]
    intro x hx e
    exact h (List.mem_map.mpr ⟨x, hx, of_decide_eq_true e⟩)
  rw [this]
  rfl
theorem putM_new {m : Mp} {k : K3} {l : List Nat} (h : k ∉ m.map (·.1)) : putM m k l = m ++ [(k, l)] := by
  unfold putM
  rw [if_neg]
  intro q
  rw [List.any_eq_true] at q
  obtain ⟨x, hx, e⟩ := q
  exact h (List.mem_map.mpr ⟨x, hx, of_decide_eq_true e⟩)
theorem putM_old {m : Mp} {k : K3} {l : List Nat} (h : k ∈ m.map (·.1)) : putM m k l = m.map fun e => if e.1 = k then (e.1, l) else e := by
  unfold putM
  rw [if_pos]
  rw [List.any_eq_true]
  obtain ⟨x, hx, e⟩ := List.mem_map.mp h
  exact ⟨x, hx, decide_eq_true e⟩
theorem putM_keys_old {m : Mp} {k : K3} {l : List Nat} (h : k ∈ m.map (·.1)) : (putM m k l).map (·.1) = m.map (·.1) := by
  rw [putM_old h, List.map_map]
  refine List.map_congr_left fun e _ => ?_
  show (if e.1 = k then (e.1, l) else e).1 = e.1
  split <;> rfl
theorem getO_app (m m' : Mp) (k : K3) : getO (m ++ m') k = (getO m k).or (getO m' k) := by
  induction m with
  | nil => rfl
  | cons e m ih =>
    rw [List.cons_append, getO_cons, getO_cons, ih]
    split <;> rfl
theorem getO_map (m : Mp) (k j : K3) (l : List Nat) : getO (m.map fun e => if e.1 = k then (e.1, l) else e) j = if j = k then (getO m j).map (fun _ => l) else getO m j := by
  induction m with
  | nil =>
    split <;> rfl
  | cons e m ih =>
    rw [List.map_cons, getO_cons, getO_cons, ih]
    by_cases h1 : e.1 = k
    · rw [if_pos h1]
      by_cases h2 : e.1 = j
      · rw [if_pos h2, if_pos h2, if_pos (by rw [← h2, h1])]
        rfl
      · rw [if_neg h2, if_neg h2]
    · rw [if_neg h1]
      by_cases h2 : e.1 = j
      · rw [if_pos h2, if_pos h2, if_neg (by rw [← h2]; exact h1)]
      · rw [if_neg h2, if_neg h2]
theorem getO_mem {m : Mp} {k : K3} (h : k ∈ m.map (·.1)) : ∃ l, getO m k = some l ∧ (k, l) ∈ m := by
  induction m with
  | nil => cases h
  | cons e m ih =>
    rw [getO_cons]
    by_cases q : e.1 = k
    · rw [if_pos q]
      exact ⟨e.2, rfl, by rw [← q]; exact List.mem_cons_self⟩
    · rw [if_neg q]
      rw [List.map_cons] at h
      rcases List.mem_cons.mp h with h | h
      · exact absurd h.symm q
      · obtain ⟨l, h1, h2⟩ := ih h
        exact ⟨l, h1, List.mem_cons_of_mem _ h2⟩
theorem getM_put (m : Mp) (k j : K3) (l : List Nat) : getM (putM m k l) j = if j = k then l else getM m j := by
  unfold getM
  by_cases h : k ∈ m.map (·.1)
  · rw [putM_old h, getO_map]
    by_cases q : j = k
    · obtain ⟨l', h1, _⟩ := getO_mem h
      rw [if_pos q, if_pos q, q, h1]
      rfl
    · rw [if_neg q, if_neg q]
  · rw [putM_new h, getO_app, getO_cons]
    by_cases q : j = k
    · rw [if_pos q, q, getO_none h, if_pos rfl]
      rfl
    · rw [if_neg q, if_neg (fun z => q z.symm)]
      cases getO m j <;> rfl
theorem cnt_put {m : Mp} {k : K3} {l : List Nat} (nd : (m.map (·.1)).Nodup) : cntM (putM m k l) + (getM m k).length = cntM m + l.length := by
  unfold cntM
  by_cases h : k ∈ m.map (·.1)
  · rw [putM_old h]
    induction m with
    | nil => cases h
    | cons e m ih =>
      rw [List.map_cons, List.nodup_cons] at nd
      rw [List.map_cons, List.map_cons, List.map_cons, List.sum_cons, List.sum_cons]
      unfold getM
      rw [getO_cons]
      by_cases q : e.1 = k
      · rw [if_pos q, if_pos q]
        have hm : k ∉ m.map (·.1) := by rw [← q]; exact nd.1
        have e2 : (m.map fun e => if e.1 = k then (e.1, l) else e) = m := by
          have : ∀ x ∈ m, (if x.1 = k then (x.1, l) else x) = x := fun x hx => if_neg fun z => hm (List.mem_map.mpr ⟨x, hx, z⟩)
          rw [List.map_congr_left this, List.map_id']
        rw [e2]
        show l.length + _ + e.2.length = e.2.length + _ + l.length
        omega
      · rw [if_neg q, if_neg q]
        rw [List.map_cons] at h
        rcases List.mem_cons.mp h with h | h
        · exact absurd h.symm q
        · have := ih nd.2 h
          unfold getM at this
          omega
  · rw [putM_new h]
    unfold getM
    rw [getO_none h]
    simp
theorem minv_put {f : Fd} {v : Pv} {m : Mp} {k : K3} {l : List Nat} (h : MInv f v m) (hk : okKey f k) (hl : l <+: cdM f v k) : MInv f v (putM m k l) := by
  refine ⟨fun j hj => ?_, ?_, fun e he => ?_⟩
  · rw [getM_put]
    by_cases q : j = k
    · rw [if_pos q, q]
      exact hl
    · rw [if_neg q]
      exact h.ok j hj
  · by_cases q : k ∈ m.map (·.1)
    · rw [putM_keys_old q]
      exact h.nd
    · rw [putM_new q, List.map_append, List.nodup_append]
      refine ⟨h.nd, by simp, fun a ha b hb e => q ?_⟩
      have hb : b = k := by simpa using hb
      rw [← hb, ← e]
      exact ha
  · by_cases q : k ∈ m.map (·.1)
    · rw [putM_old q] at he
      obtain ⟨x, hx, ex⟩ := List.mem_map.mp he
      by_cases z : x.1 = k
      · rw [if_pos z] at ex
        rw [← ex]
        show okKey f x.1 ∧ l <+: cdM f v x.1
        rw [z]
        exact ⟨hk, hl⟩
      · rw [if_neg z] at ex
        rw [← ex]
        exact h.key x hx
    · rw [putM_new q] at he
      rcases List.mem_append.mp he with he | he
      · exact h.key e he
      · rw [List.mem_singleton.mp he]
        exact ⟨hk, hl⟩
theorem sl_listK {X : Cx} {K : PySem.W.Frag} (h : X.K = K := by rfl) : SlR X (rSlL K) := by subst h; exact sl_list
theorem cutV_mid {xs : List Nat} {a n : Nat} (h : a + n ≤ xs.length) : cutV (xs.map fun (n : Nat) => V.int n) (some (a : Nat)) (some (a + n : Nat)) = ((xs.drop a).take n).map fun (n : Nat) => V.int n := by
  unfold cutV
  rw [HT.sIx_nat, HT.sIx_nat, List.length_map, Nat.min_eq_left (by omega), Nat.min_eq_left (by omega), ← List.map_drop, ← List.map_take]
  congr 2
  omega
def cutRow (xs : List Nat) (P k : Nat) : List Nat := (xs.drop (P * k)).take P
theorem cut_ok {f : Fd} {xs : List Nat} (hl : xs.length = f.w * f.h * f.c) (hx : ∀ x ∈ xs, x < 2 ^ f.d) : VOk f ((List.range f.c).map (cutRow xs (f.w * f.h))) := by
  refine ⟨by rw [List.length_map, List.length_range], fun row hr => ?_⟩
  obtain ⟨k, hk, e⟩ := List.mem_map.mp hr
  have hk := List.mem_range.mp hk
  rw [← e]
  have h1 : f.w * f.h * k + f.w * f.h ≤ f.w * f.h * f.c := by
    rw [← Nat.mul_succ]
    exact Nat.mul_le_mul_left _ hk
  refine ⟨?_, fun x hx2 => hx x (List.mem_of_mem_drop (List.mem_of_mem_take hx2))⟩
  unfold cutRow
  rw [List.length_take, List.length_drop, hl]
  omega

end PP
namespace PP
open PySem PySem.Spec PyProof.Rows L2
/-- a name's new value, in a state that is written out -/
local macro_rules | `(tactic| walk_at "set") => `(tactic| (simp only [List.set_cons_succ, List.set_cons_zero]; exact rfl))
local macro_rules | `(tactic| walk_at "start") => `(tactic| (refine g_start (σ' := ?sgm) ?hstart ?_; (case hstart => (simp only [start_eS, start_eN, start_e0]; exact rfl))))
/-- one step of a reading -/
local macro_rules | `(tactic| walk_at "g1") => `(tactic| first
  | fail)
local macro_rules | `(tactic| walk_at "go") => `(tactic| repeat (walk_at "g1"))
/-- if c: x = an int, joined -/
local macro_rules | `(tactic| walk_at "when") => `(tactic| (refine g_whenI (i0 := ?wj) (i1 := ?wi) ?wo ?wh ?_; (case wo => exact rfl); (case wh => (intro hw Q' hq; walk_at "go"; exact hq))))
/-- a heap that has only grown -/
local macro_rules | `(tactic| walk_at "same") => `(tactic| repeat (first | exact Same.refl _ | assumption | refine L2.Same.new ?_ (by assumption)))
/-- what stands at a place of a heap that has only grown -/
local macro_rules | `(tactic| walk_at "get") => `(tactic| repeat (first | exact upd_same | assumption | refine upd_get (by assumption) ?_))
/-! ### the sums -/
theorem sum_change {α : Type} {F G : α → Nat} {k : α} {c : Nat} (hk : G k + c ≤ F k) (he : ∀ j, j ≠ k → G j = F j) : ∀ {L : List α}, L.Nodup → k ∈ L → (L.map G).sum + c ≤ (L.map F).sum
  | [], _, h => by cases h
  | a :: L, nd, h => by
    rw [List.nodup_cons] at nd
    rw [List.map_cons, List.map_cons, List.sum_cons, List.sum_cons]
    rcases List.mem_cons.mp h with e | h
    · have : L.map G = L.map F := List.map_congr_left fun j hj => he j fun q => nd.1 (by rw [← e, ← q]; exact hj)
      rw [this, ← e]
      omega
    · have ih := sum_change hk he nd.2 h
      by_cases q : a = k
      · exact absurd h (by rw [← q]; exact nd.1)
      · rw [he a q]
        omega
theorem le_sum {x : Nat} : ∀ {L : List Nat}, x ∈ L → x ≤ L.sum
  | [], h => by cases h
  | a :: L, h => by
    rw [List.sum_cons]
    rcases List.mem_cons.mp h with e | h
    · omega
    · have := le_sum h
      omega
theorem opn_of {f : Fd} {m m' : Mp} {k : K3} (h : getM m k = getM m' k) : opn f m k = opn f m' k := by
  unfold opn fnd
  rw [h]
theorem rem_of {f : Fd} {v : Pv} {m m' : Mp} {k : K3} (h : getM m k = getM m' k) : remM f v m k = remM f v m' k := by
  unfold remM
  rw [opn_of h, h]
/-- what a piece takes off -/
theorem mis_put {f : Fd} {v : Pv} {m : Mp} {k : K3} {l : List Nat} (hk : okKey f k) (ho : opn f m k = true) (hl : getM m k ++ l <+: cdM f v k) : misM f v (putM m k (getM m k ++ l)) + l.length ≤ misM f v m := by
  unfold misM
  have hlen := hl.length_le
  rw [List.length_append] at hlen
  refine sum_change (k := k) ?_ (fun j hj => rem_of (by rw [getM_put, if_neg hj])) (keysM_nodup f) (mem_keysM.mpr hk)
  unfold remM
  rw [getM_put, if_pos rfl, if_pos ho, List.length_append]
  split <;> omega
theorem due_eq (f : Fd) (v : Pv) (m : Mp) : ∀ pl : List K3, ((reqM f m pl).map fun e => (cdM f v e.1).length - e.2).sum = (pl.map (remM f v m)).sum
  | [] => rfl
  | k :: pl => by
    have ih := due_eq f v m pl
    unfold reqM at ih ⊢
    rw [List.map_cons, List.sum_cons, ← ih]
    cases h : opn f m k with
    | true =>
      rw [List.filter_cons_of_pos h, List.map_cons, List.map_cons, List.sum_cons]
      congr 1
      unfold remM
      rw [if_pos h]
    | false =>
      rw [List.filter_cons_of_neg (by rw [h]; decide)]
      unfold remM
      rw [if_neg (by rw [h]; decide), Nat.zero_add]
theorem due_mis {f : Fd} {v : Pv} {m : Mp} {pl : List K3} (h : pl.Perm (keysM f)) : ((reqM f m pl).map fun e => (cdM f v e.1).length - e.2).sum = misM f v m := by
  rw [due_eq]
  exact (h.map _).sum_nat
structure EnOk (f : Fd) (v : Pv) (m : Mp) (es : List En) : Prop where
  nd : (es.map (·.1)).Nodup
  e : ∀ e ∈ es, okKey f e.1 ∧ e.2 = (getM m e.1).length ∧ opn f m e.1 = true ∧ e.2 < (cdM f v e.1).length
theorem req_ok {f : Fd} {v : Pv} {m : Mp} {pl : List K3} (ok : f.Ok) (hm : MOk f v m) (h : pl.Perm (keysM f)) : EnOk f v m (reqM f m pl) := by
  refine ⟨?_, fun e he => ?_⟩
  · unfold reqM
    rw [List.map_map]
    have : (pl.filter (opn f m)).map ((fun e : En => e.1) ∘ fun k => (k, (getM m k).length)) = pl.filter (opn f m) := by
      have e : ((fun e : En => e.1) ∘ fun k => (k, (getM m k).length)) = id := rfl
      rw [e, List.map_id]
    rw [this]
    exact List.Pairwise.filter _ (h.nodup_iff.mpr (keysM_nodup f))
  · unfold reqM at he
    obtain ⟨k, hk, e⟩ := List.mem_map.mp he
    obtain ⟨h1, h2⟩ := List.mem_filter.mp hk
    have hok := mem_keysM.mp (h.mem_iff.mp h1)
    rw [← e]
    exact ⟨hok, rfl, h2, open_lt ok v hok (hm k hok) h2⟩
theorem req_nil {f : Fd} {v : Pv} {m : Mp} {pl : List K3} (ok : f.Ok) (hm : MOk f v m) (h : pl.Perm (keysM f)) : reqM f m pl = [] ↔ misM f v m = 0 := by
  rw [← due_mis h]
  have hE := req_ok (v := v) ok hm h
  constructor
  · intro e
    rw [e]
    rfl
  · intro e
    cases hr : reqM f m pl with
    | nil => rfl
    | cons a r =>
      exfalso
      rw [hr] at e hE
      rw [List.map_cons, List.sum_cons] at e
      have := (hE.e a List.mem_cons_self).2.2.2
      omega
theorem rem_zero {f : Fd} {v : Pv} {m : Mp} (ok : f.Ok) (hm : MOk f v m) (h : misM f v m = 0) : ∀ k, okKey f k → opn f m k = false := by
  intro k hk
  cases ho : opn f m k with
  | false => rfl
  | true =>
    exfalso
    have hlt := open_lt ok v hk (hm k hk) ho
    unfold misM at h
    have : remM f v m k ≤ ((keysM f).map (remM f v m)).sum := le_sum (List.mem_map.mpr ⟨k, mem_keysM.mpr hk, rfl⟩)
    unfold remM at this
    rw [if_pos ho] at this
    unfold remM at h
    omega
theorem all_known {f : Fd} {v : Pv} {m : Mp} (ok : f.Ok) (hm : MOk f v m) (h : misM f v m = 0) : AllKnown f v m := fun k hk => closed_eq ok v hk (hm k hk) (rem_zero ok hm h k hk)
/-- what an answer holds -/
structure PcOk (f : Fd) (v : Pv) (m : Mp) (ps : List Pc) : Prop where
  nd : (ps.map (·.1)).Nodup
  p : ∀ p ∈ ps, okKey f p.1 ∧ p.2.1 = (getM m p.1).length ∧ opn f m p.1 = true ∧ 1 ≤ p.2.2.length ∧ getM m p.1 ++ p.2.2 <+: cdM f v p.1
theorem ans_keys (f : Fd) (v : Pv) : ∀ (es : List En) (n : Nat), ∀ p ∈ ansM f v n es, p.1 ∈ es.map (·.1)
  | [], _, p, h => by cases h
  | e :: es, n, p, h => by
    unfold ansM at h
    rw [List.map_cons]
    rcases List.mem_append.mp h with h | h
    · split at h
      · cases h
      · rw [List.mem_singleton.mp h]
        exact List.mem_cons_self
    · split at h
      · cases h
      · exact List.mem_cons_of_mem _ (ans_keys f v es _ p h)
theorem ans_ok {f : Fd} {v : Pv} {m : Mp} (hm : MOk f v m) : ∀ (es : List En) (n : Nat), EnOk f v m es → PcOk f v m (ansM f v n es)
  | [], _, _ => ⟨List.nodup_nil, fun _ h => absurd h List.not_mem_nil⟩
  | e :: es, n, h => by
    have nd := h.nd
    rw [List.map_cons, List.nodup_cons] at nd
    have hE : EnOk f v m es := ⟨nd.2, fun x hx => h.e x (List.mem_cons_of_mem _ hx)⟩
    obtain ⟨h1, h2, h3, h4⟩ := h.e e List.mem_cons_self
    have hrest : PcOk f v m (if (((cdM f v e.1).drop e.2).take n).length < ((cdM f v e.1).drop e.2).length then [] else ansM f v (n - (((cdM f v e.1).drop e.2).take n).length) es) := by
      split
      · exact ⟨List.nodup_nil, fun _ h => absurd h List.not_mem_nil⟩
      · exact ans_ok hm es _ hE
    have hkeys : ∀ p ∈ (if (((cdM f v e.1).drop e.2).take n).length < ((cdM f v e.1).drop e.2).length then [] else ansM f v (n - (((cdM f v e.1).drop e.2).take n).length) es), p.1 ∈ es.map (·.1) := by
      intro p hp
      split at hp
      · cases hp
      · exact ans_keys f v es _ p hp
    unfold ansM
    split
    · rw [List.nil_append]
      exact hrest
    · rename_i hne
      refine ⟨?_, fun p hp => ?_⟩
      · rw [List.map_append, List.map_cons, List.map_nil, List.singleton_append, List.nodup_cons]
        refine ⟨fun q => ?_, hrest.nd⟩
        obtain ⟨p, hp, ep⟩ := List.mem_map.mp q
        exact nd.1 (by rw [← ep]; exact hkeys p hp)
      · rcases List.mem_append.mp hp with hp | hp
        · rw [List.mem_singleton.mp hp]
          refine ⟨h1, h2, h3, ?_, ?_⟩
          · cases hq : ((cdM f v e.1).drop e.2).take n with
            | nil => exact absurd hq hne
            | cons a r =>
              show 1 ≤ (a :: r).length
              rw [List.length_cons]
              omega
          · show getM m e.1 ++ ((cdM f v e.1).drop e.2).take n <+: cdM f v e.1
            have e1 : getM m e.1 = (cdM f v e.1).take e.2 := by
              rw [h2]
              exact List.prefix_iff_eq_take.mp (hm e.1 h1)
            rw [e1]
            have := List.prefix_append_right_inj ((cdM f v e.1).take e.2) (l₁ := ((cdM f v e.1).drop e.2).take n) (l₂ := (cdM f v e.1).drop e.2) |>.mpr (List.take_prefix _ _)
            rw [List.take_append_drop] at this
            exact this
        · exact hrest.p p hp
theorem ans_total (f : Fd) (v : Pv) : ∀ (es : List En) (n : Nat), ((ansM f v n es).map fun p => p.2.2.length).sum = min n ((es.map fun e => (cdM f v e.1).length - e.2).sum)
  | [], n => by
    show 0 = min n 0
    omega
  | e :: es, n => by
    unfold ansM
    rw [List.map_append, List.sum_append, List.map_cons, List.sum_cons]
    have hl : (((cdM f v e.1).drop e.2).take n).length = min n ((cdM f v e.1).length - e.2) := by rw [List.length_take, List.length_drop]
    have hd : ((cdM f v e.1).drop e.2).length = (cdM f v e.1).length - e.2 := List.length_drop ..
    have e1 : ((if ((cdM f v e.1).drop e.2).take n = [] then ([] : List Pc) else [(e.1, e.2, ((cdM f v e.1).drop e.2).take n)]).map fun p => p.2.2.length).sum = (((cdM f v e.1).drop e.2).take n).length := by
      split
      · rename_i h
        rw [h]
        rfl
      · simp
    rw [e1, hl, hd]
    split
    · show _ + 0 = _
      omega
    · rw [ans_total f v es]
      omega
theorem sum_const {α : Type} {F : α → Nat} {c : Nat} : ∀ {L : List α}, (∀ x ∈ L, F x ≤ c) → (L.map F).sum ≤ L.length * c
  | [], _ => Nat.zero_le _
  | a :: L, h => by
    have h1 := h a List.mem_cons_self
    have h2 := sum_const (L := L) fun x hx => h x (List.mem_cons_of_mem _ hx)
    rw [List.map_cons, List.sum_cons, List.length_cons, Nat.succ_mul]
    omega
theorem mis_le {f : Fd} (ok : f.Ok) (v : Pv) (m : Mp) (hk : (keysM f).length ≤ 225) : misM f v m ≤ 4500 := by
  unfold misM
  refine Nat.le_trans (sum_const (c := 20) fun k hm => ?_) (by have := Nat.mul_le_mul_right 20 hk; omega)
  have h := (full_find ok v (mem_keysM.mp hm)).2.2
  unfold remM
  split <;> omega
theorem putM_len (m : Mp) (k : K3) (l : List Nat) : (putM m k l).length ≤ m.length + 1 := by
  unfold putM
  split
  · rw [List.length_map]
    omega
  · rw [List.length_append]
    exact Nat.le_refl _
theorem sum_take {L : List Nat} {i : Nat} (h : i < L.length) : (L.take (i + 1)).sum = (L.take i).sum + L[i] := by
  rw [List.take_succ_eq_append_getElem h, List.sum_append]
  simp

end PP
namespace PP
open PySem PySem.Spec PyProof.Rows L2
/-- a name's new value, in a state that is written out -/
local macro_rules | `(tactic| walk_at "set") => `(tactic| (simp only [List.set_cons_succ, List.set_cons_zero]; exact rfl))
local macro_rules | `(tactic| walk_at "start") => `(tactic| (refine g_start (σ' := ?sgm) ?hstart ?_; (case hstart => (simp only [start_eS, start_eN, start_e0]; exact rfl))))
/-- one step of a reading -/
local macro_rules | `(tactic| walk_at "g1") => `(tactic| first
  | ((with_reducible refine g_var (v := ?vv) ?hvv ?_); (case hvv => exact rfl))
  | ((with_reducible refine g_nxS (σ' := ?sgm) ?hset ?_); (case hset => walk_at "set"))
  | ((with_reducible refine g_gnameS (σ' := ?sgm) ?hset ?_); (case hset => walk_at "set"))
  | with_reducible first
    | refine g_c ?_
    | refine g_op ?_
    | refine g_I0 ?_
    | refine g_seq ?_
    | refine g_set ?_
    | refine g_ret ?_
    | refine g_cons ?_
    | refine g_nil ?_
    | refine g_call ?_
    | refine g_cb ?_
    | refine g_met ?_
    | refine g_meA (by assumption) rfl ?_
    | refine g_drop ?_
    | refine g_tup ?_
    | refine g_lst ?_
    | refine g_nx ?_
    | refine g_rt ?_
    | refine g_for ?_
    | refine g_rng1 ?_
    | refine g_rngN (by omega) ?_
    | refine g_gname ?_
    | refine g_lc ?_
    | refine g_slS ?_
    | refine g_noP ?_
    | refine g_part ?_
    | refine g_yes ?_
    | refine g_true ?_
  | ((with_reducible refine ⟨tx _, rfl, sz_tx ?hzt, ?_⟩); (case hzt => first | omega | (simp only [List.length_nil, List.length_cons, List.length_append]; omega)); rw [tx_len])
  | with_reducible refine g_exI ?_
  | ((with_reducible refine g_I ?hcc ?_); (case hcc => first | (intro hz; omega) | omega | exact Or.inl (by omega) | exact Or.inr (by omega) | exact ⟨by omega, by omega, by omega⟩ | exact ⟨by omega, by omega⟩)))
local macro_rules | `(tactic| walk_at "go") => `(tactic| repeat (walk_at "g1"))
/-- if c: x = an int, joined -/
local macro_rules | `(tactic| walk_at "when") => `(tactic| (refine g_whenI (i0 := ?wj) (i1 := ?wi) ?wo ?wh ?_; (case wo => exact rfl); (case wh => (intro hw Q' hq; walk_at "go"; exact hq))))
/-- a heap that has only grown -/
local macro_rules | `(tactic| walk_at "same") => `(tactic| repeat (first | exact Same.refl _ | assumption | refine L2.Same.new ?_ (by assumption)))
/-- what stands at a place of a heap that has only grown -/
local macro_rules | `(tactic| walk_at "get") => `(tactic| repeat (first | exact upd_same | assumption | refine upd_get (by assumption) ?_))
def sp_law_frame (K : PySem.W.Frag) (CF : Addr) : Sp := fun vs H Q _ => ∃ (f : Fd) (s : Addr), vs = [.ref s] ∧ f.Ok ∧ SqL K H s (fL f) ∧ ∀ a H', Same H H' → FrAt CF H' a f → Q (.ref a) H'
def sp_law_picture (K : PySem.W.Frag) (CP : Addr) : Sp := fun vs H Q _ => ∃ (f : Fd) (s r : Addr) (v : Pv), vs = [.ref s, .ref r] ∧ f.Ok ∧ VOk f v ∧ SqL K H s (fL f) ∧ RowsAt H r v ∧ ∀ a H', Same H H' → PiAt CP H' a f v → Q (.ref a) H'
def sp_law_order (K : PySem.W.Frag) : Sp := fun vs H Q _ => ∃ (f : Fd) (s : Addr), vs = [.ref s, .int (f.tls : Nat)] ∧ f.Ok ∧ SqL K H s (fL f) ∧ ∀ D H' rs, Same H H' → H' D = some (.lst rs) → KsV H' rs (keysM f) → Q (.ref D) H'
def sp_law_values (K : PySem.W.Frag) : Sp := fun vs H Q _ => ∃ (a : Int) (f : Fd) (s : Addr), vs = [.int a, .ref s] ∧ f.Ok ∧ SqL K H s (fL f) ∧ ∀ D H' v, Same H H' → VOk f v → RowsAt H' D v → Q (.ref D) H'
def sp_law_cut (CF CA CP : Addr) : Sp := fun vs H Q _ => ∃ (f : Fd) (v : Pv) (fr pi ks pk : Addr) (rs : List V) (xs : List Nat), vs = [.ref fr, .ref pi, .ref ks, .ref pk] ∧ FrAt CF H fr f ∧ PiAt CP H pi f v ∧ f.Ok ∧ VOk f v ∧ H ks = some (.lst rs) ∧ KsV H rs (keysM f) ∧ H pk = some (intsO xs) ∧ xs.length = (keysM f).length ∧
  ∀ a t H' m, Same H H' → H t = none → ArAt CF CA H' a fr t f m → MInv f v m → m.length ≤ 225 → Q (.ref a) H'
theorem keysM_le {f : Fd} (ok : f.Ok) : (keysM f).length ≤ 225 := by
  have h1 := ok.d; have h2 := ok.cc; have ht := ok.tls
  have e : (keysM f).length = f.d * (f.c * f.tls) := keysM_len f f.d
  rw [e]
  have q1 := Nat.mul_le_mul h2.2 ht.2
  have q2 := Nat.mul_le_mul h1.2 q1
  omega
section
variable {P : Program} {wd : World} {K : PySem.W.Frag} {mg : Str → Option Value} {base : Heap} {CF CA CP : Addr}

theorem sc_law_frame : FnScope ["_law_sizes"] ["_law_sizes"] (defScope s_law_frame) := ⟨rfl, rfl, rfl, by decide +kernel, rfl, by decide +kernel, by decide +kernel⟩
theorem cal_law_frame (T : Tx K mg CF CA CP) : Cal P wd K mg base 4 "_law_frame" ["_law_sizes"] (sp_law_frame K CF) := by
  refine T.cal (d := d_law_frame) 83 rfl sc_law_frame (fun _ _ _ _ _ _ us hl => match us, hl with | [_], _ => rfl) (fun vs H Q E h => ?_) (fun f cdv A outer s H vs Q E hr h => ?_)
  · obtain ⟨f, s, rfl, _⟩ := h
    rfl
  · obtain ⟨f, s, rfl, ok, hS, k⟩ := h
    refine ⟨_, (pss_one (ps_ret (pe_mk T.cF (mcal_Frame_init T) hr T.gF (pa_cons (pe_ix (ix_listK (K := K)) (pv 0) pe_int (fun _ _ => rfl)) (pa_cons (pe_ix (ix_listK (K := K)) (pv 0) pe_int (fun _ _ => rfl)) (pa_cons (pe_ix (ix_listK (K := K)) (pv 0) pe_int (fun _ _ => rfl)) (pa_cons (pe_ix (ix_listK (K := K)) (pv 0) pe_int (fun _ _ => rfl)) (pa_cons (pe_ix (ix_listK (K := K)) (pv 0) pe_int (fun _ _ => rfl)) pa_nil)))))))), ?_⟩
    walk_at "start"
    walk_at "go"
    refine g_mk ?_
    walk_at "go"
    refine g_ixL 0 hS rfl rfl ?_
    walk_at "go"
    refine g_ixL 1 hS rfl rfl ?_
    walk_at "go"
    refine g_ixL 2 hS rfl rfl ?_
    walk_at "go"
    refine g_ixL 3 hS rfl rfl ?_
    walk_at "go"
    refine g_ixL 4 hS rfl rfl ?_
    walk_at "go"
    intro x dx hx hdx hne
    obtain ⟨Sn, hxs⟩ := made (C := CF) hx hdx hne
    refine ⟨f, x, dx, rfl, ok, hxs, rfl, k x _ (Sn.set hx) ⟨dx, upd_same⟩⟩
theorem sc_law_picture : FnScope ["_law_sizes", "_law_values_here"] ["_law_sizes", "_law_values_here"] (defScope s_law_picture) := ⟨rfl, rfl, rfl, by decide +kernel, rfl, by decide +kernel, by decide +kernel⟩
theorem cal_law_picture (T : Tx K mg CF CA CP) : Cal P wd K mg base 4 "_law_picture" ["_law_sizes", "_law_values_here"] (sp_law_picture K CP) := by
  refine T.cal (d := d_law_picture) 82 rfl sc_law_picture (fun _ _ _ _ _ _ us hl => match us, hl with | [_, _], _ => rfl) (fun vs H Q E h => ?_) (fun f cdv A outer s H vs Q E hr h => ?_)
  · obtain ⟨f, s, r, v, rfl, _⟩ := h
    rfl
  · obtain ⟨f, s, r, v, rfl, ok, hv, hS, hR, k⟩ := h
    refine ⟨_, (pss_one (ps_ret (pe_mk T.cP (mcal_Picture_init T) hr T.gP (pa_cons (pe_ix (ix_listK (K := K)) (pv 0) pe_int (fun _ _ => rfl)) (pa_cons (pe_ix (ix_listK (K := K)) (pv 0) pe_int (fun _ _ => rfl)) (pa_cons (pe_ix (ix_listK (K := K)) (pv 0) pe_int (fun _ _ => rfl)) (pa_cons (pe_ix (ix_listK (K := K)) (pv 0) pe_int (fun _ _ => rfl)) (pa_cons (pv 1) pa_nil)))))))), ?_⟩
    walk_at "start"
    walk_at "go"
    refine g_mk ?_
    walk_at "go"
    refine g_ixL 0 hS rfl rfl ?_
    walk_at "go"
    refine g_ixL 1 hS rfl rfl ?_
    walk_at "go"
    refine g_ixL 2 hS rfl rfl ?_
    walk_at "go"
    refine g_ixL 3 hS rfl rfl ?_
    walk_at "go"
    intro x dx hx hdx hne
    obtain ⟨Sn, hxs⟩ := made (C := CP) hx hdx hne
    exact ⟨f, x, dx, r, v, rfl, ok, hv, hR.up Sn, hxs, fun H'' SB hP => ⟨rfl, k x H'' (made_same hx Sn SB) hP⟩⟩
theorem sc_law_order : FnScope ["_law_sizes", "_law_tiles_here", "_law_keys", "_law_down", "_law_channel", "_law_tile"] ["_law_sizes", "_law_tiles_here"] (defScope s_law_order) := ⟨rfl, rfl, rfl, by decide +kernel, rfl, by decide +kernel, by decide +kernel⟩
theorem cal_law_order (T : Tx K mg CF CA CP) : Cal P wd K mg base 1 "_law_order" ["_law_sizes", "_law_tiles_here"] (sp_law_order K) := by
  refine T.cal (d := d_law_order) 80 rfl sc_law_order (fun _ _ _ _ _ _ us hl => match us, hl with | [_, _], _ => rfl) (fun vs H Q E h => ?_) (fun f cdv A outer s H vs Q E hr h => ?_)
  · obtain ⟨f, s, rfl, _⟩ := h
    rfl
  · obtain ⟨f, s, rfl, ok, hS, k⟩ := h
    refine ⟨_, (pss_cons (ps_set (i := 2) sc_law_order.nd rfl (by first | exact Or.inl rfl | exact Or.inr rfl) (pe_lst pa_nil))
      (pss_cons (ps_for PassesOwn.never rfl (pi_range1 (by rfl) (T.nof _ (fre_range)) (pa_cons (pe_ix (ix_listK (K := K)) (pv 0) pe_int (fun _ _ => rfl)) pa_nil)) (pg_name (i := 3) sc_law_order.nd rfl (by first | exact Or.inl rfl | exact Or.inr rfl))
      (pss_one (ps_for PassesOwn.never rfl (pi_range1 (by rfl) (T.nof _ (fre_range)) (pa_cons (pe_ix (ix_listK (K := K)) (pv 0) pe_int (fun _ _ => rfl)) pa_nil)) (pg_name (i := 4) sc_law_order.nd rfl (by first | exact Or.inl rfl | exact Or.inr rfl))
      (pss_one (ps_for PassesOwn.never rfl (pi_range1 (by rfl) (T.nof _ (fre_range)) (pa_cons (pv 1) pa_nil)) (pg_name (i := 5) sc_law_order.nd rfl (by first | exact Or.inl rfl | exact Or.inr rfl))
      (pss_one (ps_expr (pe_bm PySem.F.plainAttrs_list PySem.F.slot_list_append PySem.F.type_list_append mt_append (pv 2) (pa_cons (pe_tup (pa_cons (pv 4) (pa_cons (pv 5) (pa_cons (pe_op op_sub (pe_op op_sub (pe_ix (ix_listK (K := K)) (pv 0) pe_int (fun _ _ => rfl)) pe_int) (pv 3)) pa_nil)))) pa_nil)))))))))
      (pss_one (ps_ret (pv 2))))), ?_⟩
    walk_at "start"
    have h2 := ok.d; have h3 := ok.cc; have h4 := ok.tls
    walk_at "go"
    refine ⟨sz0, fun D hD => ?_⟩
    have nD : H D = none := hD
    have hS1 := (same_new hD (o := .lst [])).seq hS
    walk_at "go"
    refine g_ixL 2 hS1 rfl rfl ?_
    walk_at "go"
    refine g_forV (fun i σ H' => Same H H' ∧ ∃ (rs : List V) (e3 e4 e5 : Option V), H' D = some (.lst rs) ∧ KsV H' rs ((List.range i).flatMap (keyPl f)) ∧ σ = [some (.ref s), some (.int (f.tls : Nat)), some (.ref D), e3, e4, e5]) (itv_r0 f.d) (fun _ _ _ _ => trivial) ⟨same_new hD, [], none, none, none, upd_same, .nil, rfl⟩ (fun i σ H' hi h => ?_) (fun σ H' h => ?_)
    · obtain ⟨S, rs, e3, e4, e5, hDl, hks, e⟩ := h
      subst e
      have hS2 := S.seq hS
      walk_at "go"
      refine g_ixL 3 hS2 rfl rfl ?_
      walk_at "go"
      refine g_forV (fun c σ H' => Same H H' ∧ ∃ (rs : List V) (e4 e5 : Option V), H' D = some (.lst rs) ∧ KsV H' rs ((List.range i).flatMap (keyPl f) ++ (List.range c).flatMap (keyRow f i)) ∧ σ = [some (.ref s), some (.int (f.tls : Nat)), some (.ref D), some (.int (i : Nat)), e4, e5]) (itv_r0 f.c) (fun _ _ _ _ => trivial) ⟨S, rs, e4, e5, hDl, by simpa using hks, rfl⟩ (fun c σ H' hc h => ?_) (fun σ H' h => ?_)
      · obtain ⟨S, rs, e4, e5, hDl, hks, e⟩ := h
        subst e
        walk_at "go"
        refine g_forV (fun j σ H' => Same H H' ∧ ∃ (rs : List V) (e5 : Option V), j ≤ f.tls ∧ H' D = some (.lst rs) ∧ KsV H' rs ((List.range i).flatMap (keyPl f) ++ (List.range c).flatMap (keyRow f i) ++ (List.range j).map fun j => (c, j, f.d - 1 - i)) ∧ σ = [some (.ref s), some (.int (f.tls : Nat)), some (.ref D), some (.int (i : Nat)), some (.int (c : Nat)), e5]) (itv_r0 f.tls) (fun _ _ _ _ => trivial) ⟨S, rs, e5, Nat.zero_le _, hDl, by simpa using hks, rfl⟩ (fun j σ H' hj h => ?_) (fun σ H' h => ?_)
        · obtain ⟨S, rs, e5, hjl, hDl, hks, e⟩ := h
          subst e
          have hS2 := S.seq hS
          have hrl : rs.length ≤ 10000 := by
            rw [hks.length, List.length_append, List.length_append, keysM_len, keyPl_len, List.length_map, List.length_range]
            have q1 := Nat.mul_le_mul (show f.c ≤ 3 by omega) (show f.tls ≤ 25 by omega)
            have q2 := Nat.mul_le_mul (show i ≤ 3 by omega) q1
            have q3 := Nat.mul_le_mul (show c ≤ 3 by omega) (show f.tls ≤ 25 by omega)
            omega
          walk_at "go"
          refine g_bm ?_
          walk_at "go"
          refine ⟨.inl ⟨rfl, _, SqL.of hDl⟩, ?_⟩
          walk_at "go"
          refine g_ixL 2 hS2 rfl rfl ?_
          walk_at "go"
          have ep : (f.d : Int) - 1 - (i : Int) = ((f.d - 1 - i : Nat) : Int) := by omega
          rw [ep]
          refine ⟨sz3, fun p hp => ?_⟩
          walk_at "go"
          have npD : p ≠ D := fun q => by rw [q, hDl] at hp; cases hp
          refine ⟨D, rs, _, rfl, rfl, upd_get hp hDl, lt_sz (by omega), ?_⟩
          walk_at "go"
          refine ⟨(S.new hp).set nD, _, _, hj, upd_same, ?_, rfl⟩
          rw [List.range_succ, List.map_append, ← List.append_assoc]
          have SD : SameB D H' (upd (upd H' p (.tup [.int (c : Nat), .int (j : Nat), .int (f.d - 1 - i : Nat)])) D (.lst (rs ++ [.ref p]))) := (SameB.of (same_new hp)).put
          refine Paired.snoc (hks.mono fun _ _ q => q.putL hDl SD) ⟨p, rfl, ?_⟩
          rw [upd_ne npD]
          exact upd_same
        · obtain ⟨S, rs, e5, hjl, hDl, hks, e⟩ := h
          subst e
          refine ⟨S, rs, _, _, hDl, ?_, rfl⟩
          rw [List.range_succ, List.flatMap_append, ← List.append_assoc]
          simpa [keyRow] using hks
      · obtain ⟨S, rs, e4, e5, hDl, hks, e⟩ := h
        subst e
        refine ⟨S, rs, _, _, _, hDl, ?_, rfl⟩
        rw [List.range_succ, List.flatMap_append]
        simpa [keyPl] using hks
    · obtain ⟨S, rs, e3, e4, e5, hDl, hks, e⟩ := h
      subst e
      walk_at "go"
      exact k D H' rs S hDl hks

theorem sc_law_cut : FnScope ["_law_frame_here", "_law_picture_here", "_law_keys", "_law_picks", "_law_arrived", "_law_k", "_law_code", "_law_part"] ["_law_frame_here", "_law_picture_here", "_law_keys", "_law_picks"] (defScope s_law_cut) := ⟨rfl, rfl, rfl, by decide +kernel, rfl, by decide +kernel, by decide +kernel⟩
theorem cal_law_cut (T : Tx K mg CF CA CP) : Cal P wd K mg base 8 "_law_cut" ["_law_frame_here", "_law_picture_here", "_law_keys", "_law_picks"] (sp_law_cut CF CA CP) := by
  refine T.cal (d := d_law_cut) 84 rfl sc_law_cut (fun _ _ _ _ _ _ us hl => match us, hl with | [_, _, _, _], _ => rfl) (fun vs H Q E h => ?_) (fun f cdv A outer s H vs Q E hr h => ?_)
  · obtain ⟨f, v, fr, pi, ks, pk, rs, xs, rfl, _⟩ := h
    rfl
  · obtain ⟨f, v, fr, pi, ks, pk, rs, xs, rfl, hF, hP, ok, hv, hks, hkv, hpk, hxl, k⟩ := h
    refine ⟨_, (pss_cons (ps_set (i := 4) sc_law_cut.nd rfl (by first | exact Or.inl rfl | exact Or.inr rfl) (pe_mk T.cA (mcal_Arrived_init T) hr T.gA (pa_cons (pv 0) pa_nil)))
      (pss_cons (ps_for PassesOwn.never rfl (pi_range1 (by rfl) (T.nof _ (fre_range)) (pa_cons (pe_callB (call_len_seqK (K := K)) (by rfl) (T.nof _ (fre_len)) PySem.boot_len (pa_cons (pv 2) pa_nil)) pa_nil)) (pg_name (i := 5) sc_law_cut.nd rfl (by first | exact Or.inl rfl | exact Or.inr rfl))
      (pss_cons (ps_set (i := 6) sc_law_cut.nd rfl (by first | exact Or.inl rfl | exact Or.inr rfl) (pe_cal (cal_packet_code T) hr (pa_cons (pv 0) (pa_cons (pv 1) (pa_cons (pe_ix (ix_listK (K := K)) (pv 2) (pv 5) (fun _ _ => rfl)) pa_nil)))))
      (pss_cons (ps_set (i := 7) sc_law_cut.nd rfl (by first | exact Or.inl rfl | exact Or.inr rfl) (pe_op op_modN (pe_op op_fdivN (pe_ix (ix_listK (K := K)) (pv 3) (pv 5) (fun _ _ => rfl)) pe_int) (pe_op op_add (pe_callB call_len_str (by rfl) (T.nof _ (fre_len)) PySem.boot_len (pa_cons (pv 6) pa_nil)) pe_int)))
      (pss_one (ps_expr (pe_mcal T.cA.cl (mcal_Arrived_accept T) hr (pv 4) (pa_cons (pe_ix (ix_listK (K := K)) (pv 2) (pv 5) (fun _ _ => rfl)) (pa_cons pe_int (pa_cons (pe_slice sl_str (pv 6) po_none (po_some (pe_ix (ix_listK (K := K)) (pe_lst (pa_cons pe_int (pa_cons (pe_callB call_len_str (by rfl) (T.nof _ (fre_len)) PySem.boot_len (pa_cons (pv 6) pa_nil)) (pa_cons (pv 7) (pa_cons (pv 7) pa_nil))))) (pe_op op_modN (pe_ix (ix_listK (K := K)) (pv 3) (pv 5) (fun _ _ => rfl)) pe_int) (fun _ _ => rfl)))) pa_nil)))))))))
      (pss_one (ps_ret (pv 4))))), ?_⟩
    walk_at "start"
    obtain ⟨rp, hO, hR⟩ := id hP
    walk_at "go"
    refine g_mk ?_
    walk_at "go"
    intro a dx hx hdx hne
    obtain ⟨Sn, hxs⟩ := made (C := CA) hx hdx hne
    refine ⟨a, dx, fr, rfl, hxs, fun t H1 SB nt hA1 hT1 => ⟨rfl, ?_⟩⟩
    have S1 : Same H H1 := made_same hx Sn SB
    have nt0 : H t = none := Sn.free nt
    have hA : ArAt CF CA H1 a fr t f [] := ⟨⟨dx, hA1⟩, hF.up S1, hT1⟩
    have hkl : (keysM f).length ≤ 225 := keysM_le ok
    walk_at "go"
    refine ⟨ks, rs, rfl, .inl (SqL.of (S1 _ _ hks)), ?_⟩
    rw [hkv.length]
    walk_at "go"
    refine g_forV (fun i σ H' => Same H H' ∧ ∃ (m : Mp) (e5 e6 e7 : Option V), ArAt CF CA H' a fr t f m ∧ MInv f v m ∧ (∀ e ∈ m, e.1 ∈ (keysM f).take i) ∧ m.length ≤ i ∧ σ = [some (.ref fr), some (.ref pi), some (.ref ks), some (.ref pk), some (.ref a), e5, e6, e7]) (itv_r0 (keysM f).length) (fun _ _ _ _ => trivial) ⟨S1, [], none, none, none, hA, minv_nil f v, fun _ h => absurd h List.not_mem_nil, Nat.le_refl _, rfl⟩ (fun i σ H' hi h => ?_) (fun σ H' h => ?_)
    · obtain ⟨S, m, e5, e6, e7, hA, hm, hmk, hml, e⟩ := h
      subst e
      have hky := pair_at (d := V.non) hkv hi
      have hok := mem_keysM.mp (List.getElem_mem hi)
      have hirs : i < rs.length := by rw [hkv.length]; exact hi
      have hget : rs[i]? = some (rs.getD i .non) := by rw [List.getD_eq_getElem?_getD, List.getElem?_eq_getElem hirs]; rfl
      have hnew : (keysM f)[i] ∉ m.map (·.1) := by
        intro q
        obtain ⟨e, he, ee⟩ := List.mem_map.mp q
        have h1 := hmk e he
        obtain ⟨j, hj, ej⟩ := List.getElem_of_mem h1
        rw [List.length_take] at hj
        rw [List.getElem_take] at ej
        have nd := List.nodup_iff_pairwise_ne.mp (keysM_nodup f)
        rw [List.pairwise_iff_getElem] at nd
        exact nd j i (by omega) hi (by omega) (by rw [ej]; exact ee)
      have htk : (keysM f).take (i + 1) = (keysM f).take i ++ [(keysM f)[i]] := List.take_succ_eq_append_getElem hi
      generalize hkk : (keysM f)[i] = ky at hky hok hnew htk
      have h20 := (full_find ok v hok).2.2
      have hks' := S _ _ hks
      have hpk' := S _ _ hpk
      walk_at "go"
      refine g_ixL i (SqL.of hks') rfl hget ?_
      generalize rs.getD i .non = kv at hky hget
      walk_at "go"
      refine ⟨f, fr, pi, v, ky, kv, rfl, hF.up S, hP.up S, ok, hv, hky.up S, hok, fun H2 S2 => ?_⟩
      have hA2 := hA.up S2
      have S12 := S.trans S2
      have hpk2 := S2 _ _ hpk'
      have hks2 := S2 _ _ hks'
      have hAo := hA2.o
      walk_at "go"
      refine g_ixL i (SqL.of hpk2) rfl (ints_get (by rw [hxl]; exact hi)) ?_
      walk_at "go"
      have ef : ((xs.getD i 0 : Nat) : Int).fdiv 4 = ((xs.getD i 0 / 4 : Nat) : Int) := fdiv_nat (b := 4) rfl
      have e1 : (((cdM f v ky).length : Nat) : Int) + 1 = (((cdM f v ky).length + 1 : Nat) : Int) := by omega
      rw [ef, e1, fmodN]
      generalize hpt : xs.getD i 0 / 4 % ((cdM f v ky).length + 1) = part
      have hpt2 : part ≤ (cdM f v ky).length := by rw [← hpt]; exact Nat.le_of_lt_succ (Nat.mod_lt _ (Nat.succ_pos _))
      walk_at "go"
      refine g_ixL i (SqL.of hks2) rfl hget ?_
      walk_at "go"
      refine ⟨sz4, fun p hp => ?_⟩
      have hA3 := hA2.up (same_new hp (o := .lst [.int 0, .int ((cdM f v ky).length : Nat), .int part, .int part]))
      walk_at "go"
      refine g_ixL i (SqL.of (upd_get hp hpk2)) rfl (ints_get (by rw [hxl]; exact hi)) ?_
      walk_at "go"
      have e4 : ((xs.getD i 0 : Nat) : Int).fmod 4 = ((xs.getD i 0 % 4 : Nat) : Int) := fmodN _ 4
      rw [e4]
      obtain ⟨cut, hcut, hc2⟩ : ∃ cut : Nat, ([V.int 0, .int ((cdM f v ky).length : Nat), .int part, .int part] : List V)[xs.getD i 0 % 4]? = some (.int (cut : Nat)) ∧ cut ≤ (cdM f v ky).length := by
        have hq : xs.getD i 0 % 4 = 0 ∨ xs.getD i 0 % 4 = 1 ∨ xs.getD i 0 % 4 = 2 ∨ xs.getD i 0 % 4 = 3 := by omega
        rcases hq with q | q | q | q <;> rw [q]
        · exact ⟨0, rfl, Nat.zero_le _⟩
        · exact ⟨_, rfl, Nat.le_refl _⟩
        · exact ⟨part, rfl, hpt2⟩
        · exact ⟨part, rfl, hpt2⟩
      refine g_ixL _ (SqL.of upd_same) rfl hcut ?_
      walk_at "go"
      refine g_to (by omega) ?_
      walk_at "go"
      have hg0 : getM m ky = [] := by unfold getM; rw [getO_none hnew]; rfl
      have hpre : (cdM f v ky).take cut <+: cdM f v ky := List.take_prefix _ _
      obtain ⟨hdc, j, hj, hfd⟩ := prefix_find ok v hok hpre
      refine ⟨a, fr, t, f, m, ky, kv, (cdM f v ky).take cut, (bitsM f v ky).take j, by rw [hg0]; rfl, hA3, ok, ((hky.up S).up S2).up (same_new hp), hok, by omega, by rw [hg0]; exact hdc, by rw [hg0]; exact hfd, fun H4 SB4 hT4 => ?_⟩
      walk_at "go"
      have SH4 : Same H H4 := fun b o e => SB4 b o (fun q => by rw [q, nt0] at e; cases e) ((S12.new hp) b o e)
      have hA4 := hA3.put SB4 hT4
      refine ⟨SH4, _, _, _, _, hA4, ?_, fun e he => ?_, ?_, rfl⟩
      · split
        · exact hm
        · rw [hg0]
          exact minv_put hm hok hpre
      · rw [htk]
        split at he
        · exact List.mem_append_left _ (hmk e he)
        · rw [putM_new hnew] at he
          rcases List.mem_append.mp he with he | he
          · exact List.mem_append_left _ (hmk e he)
          · rw [List.mem_singleton.mp he]
            exact List.mem_append_right _ (List.mem_singleton.mpr rfl)
      · split
        · omega
        · rw [putM_new hnew, List.length_append]
          exact Nat.succ_le_succ hml
    · obtain ⟨S, m, e5, e6, e7, hA, hm, hmk, hml, e⟩ := h
      subst e
      walk_at "go"
      exact k a t H' m S nt0 hA hm (by omega)
theorem sc_law_values : FnScope ["_law_cell_here", "_law_sizes", "_law_pixels", "_law_row", "_law_k"] ["_law_cell_here", "_law_sizes"] (defScope s_law_values) := ⟨rfl, rfl, rfl, by decide +kernel, rfl, by decide +kernel, by decide +kernel⟩
theorem cal_law_values (T : Tx K mg CF CA CP) : Cal P wd K mg base 3 "_law_values" ["_law_cell_here", "_law_sizes"] (sp_law_values K) := by
  refine T.cal (d := d_law_values) 78 rfl sc_law_values (fun _ _ _ _ _ _ us hl => match us, hl with | [_, _], _ => rfl) (fun vs H Q E h => ?_) (fun f cdv A outer s H vs Q E hr h => ?_)
  · obtain ⟨a, f, s, rfl, _⟩ := h
    rfl
  · obtain ⟨a, f, s, rfl, ok, hS, k⟩ := h
    refine ⟨_, (pss_cons (ps_set (i := 2) sc_law_values.nd rfl (by first | exact Or.inl rfl | exact Or.inr rfl) (pe_op op_mul (pe_ix (ix_listK (K := K)) (pv 1) pe_int (fun _ _ => rfl)) (pe_ix (ix_listK (K := K)) (pv 1) pe_int (fun _ _ => rfl))))
      (pss_cons (ps_set (i := 3) sc_law_values.nd rfl (by first | exact Or.inl rfl | exact Or.inr rfl) (pe_cal (cal_law_numbers T) hr (pa_cons (pv 0) (pa_cons (pe_op op_mul (pv 2) (pe_ix (ix_listK (K := K)) (pv 1) pe_int (fun _ _ => rfl))) (pa_cons (pe_op op_shl pe_int (pe_ix (ix_listK (K := K)) (pv 1) pe_int (fun _ _ => rfl))) pa_nil)))))
      (pss_one (ps_ret (pe_lc (own := [("_law_k", 4)]) rfl sc_law_values.nd (pi_range1 (by rfl) (T.nof _ (fre_range)) (pa_cons (pe_ix (ix_listK (K := K)) (pv 1) pe_int (fun _ _ => rfl)) pa_nil)) (blkOk_by (N := ["_law_cell_here", "_law_sizes", "_law_pixels", "_law_row", "_law_k"]) (sc := defScope s_law_values) (by decide +kernel)) (fun _ _ _ _ _ => (pg_name (i := 4) sc_law_values.nd rfl (by first | exact Or.inl rfl | exact Or.inr rfl))) (fun _ _ _ _ _ => pts_nil) (fun _ _ _ _ _ => (pe_slice (sl_listK (K := K)) (pv 3) (po_some (pe_op op_mul (pv 2) (pv 4))) (po_some (pe_op op_add (pe_op op_mul (pv 2) (pv 4)) (pv 2)))))))))), ?_⟩
    walk_at "start"
    have hw := ok.w; have hh := ok.h; have hd := ok.d; have hcc := ok.cc; have hwhc := ok.whc; have hwh := ok.wh
    walk_at "go"
    refine g_ixL 0 hS rfl rfl ?_
    walk_at "go"
    refine g_ixL 1 hS rfl rfl ?_
    walk_at "go"
    refine g_ixL 3 hS rfl rfl ?_
    walk_at "go"
    refine g_ixL 2 hS rfl rfl ?_
    walk_at "go"
    have hB : (1 : Int) * 2 ^ ((f.d : Int)).toNat = ((2 ^ f.d : Nat) : Int) := by
      rw [Int.one_mul, Int.toNat_natCast]
      norm_cast
    rw [hB]
    have hp8 : 2 ^ f.d ≤ 8 := Nat.pow_le_pow_right (by decide) hd.2
    refine ⟨a, f.w * f.h * f.c, 2 ^ f.d, rfl, by omega, Nat.one_le_two_pow, by omega, fun D1 H1 xs S1 hD1 hxl hxx => ?_⟩
    walk_at "go"
    refine g_ixL 3 (S1.seq hS) rfl rfl ?_
    walk_at "go"
    refine g_lcV (fun j acc H => Paired (RowV H) acc ((List.range j).map (cutRow xs (f.w * f.h)))) (by omega) (itv_r0 f.c) (fun _ _ => trivial) .nil (fun D j acc H2 Nx hj hD hH S hI hN KK hK R hR => ?_) (fun D acc H2 hD hH S hI => ?_)
    · have h1 : f.w * f.h * j + f.w * f.h ≤ f.w * f.h * f.c := by
        rw [← Nat.mul_succ]
        exact Nat.mul_le_mul_left _ hj
      walk_at "go"
      refine hR _ _ ⟨rfl, ?_⟩
      walk_at "go"
      refine ⟨D1, _, rfl, SqL.of (S _ _ hD1), fun p hp => ?_⟩
      have ec : cutV (xs.map fun (n : Nat) => V.int n) (some ((f.w : Int) * (f.h : Int) * (j : Int))) (some ((f.w : Int) * (f.h : Int) * (j : Int) + (f.w : Int) * (f.h : Int))) = (cutRow xs (f.w * f.h) j).map fun (n : Nat) => V.int n := cutV_mid (a := f.w * f.h * j) (n := f.w * f.h) (by rw [hxl]; exact h1)
      rw [ec]
      refine hK _ _ (same_new hp) ?_
      rw [List.range_succ, List.map_append]
      exact row_new hH hp hI
    · exact k D H2 _ (S1.trans S) (cut_ok hxl hxx) ⟨acc, hH, hI.mono fun _ _ q => q.up same_hide⟩
end

end PP
namespace PP
open PySem PySem.Spec PyProof.Rows L2
/-- a name's new value, in a state that is written out -/
local macro_rules | `(tactic| walk_at "set") => `(tactic| (simp only [List.set_cons_succ, List.set_cons_zero]; exact rfl))
local macro_rules | `(tactic| walk_at "start") => `(tactic| (refine g_start (σ' := ?sgm) ?hstart ?_; (case hstart => (simp only [start_eS, start_eN, start_e0]; exact rfl))))
/-- one step of a reading -/
local macro_rules | `(tactic| walk_at "g1") => `(tactic| first
  | ((with_reducible refine g_var (v := ?vv) ?hvv ?_); (case hvv => exact rfl))
  | ((with_reducible refine g_nxS (σ' := ?sgm) ?hset ?_); (case hset => walk_at "set"))
  | ((with_reducible refine g_gnameS (σ' := ?sgm) ?hset ?_); (case hset => walk_at "set"))
  | with_reducible first
    | refine g_c ?_
    | refine g_op ?_
    | refine g_I0 ?_
    | refine g_tst ?_
    | refine g_blc ?_
    | refine g_seq ?_
    | refine g_set ?_
    | refine g_ret ?_
    | refine g_eqI ?_
    | refine g_cons ?_
    | refine g_nil ?_
    | refine g_call ?_
    | refine g_ifE ?_
    | refine g_drop ?_
    | refine g_tup ?_
    | refine g_lst ?_
    | refine g_nx ?_
    | refine g_rt ?_
    | refine g_for ?_
    | refine g_rng1 ?_
    | refine g_rngN (by omega) ?_
  | ((with_reducible refine g_I ?hcc ?_); (case hcc => first | (intro hz; omega) | omega | exact Or.inl (by omega) | exact Or.inr (by omega) | exact ⟨by omega, by omega, by omega⟩ | exact ⟨by omega, by omega⟩)))
local macro_rules | `(tactic| walk_at "go") => `(tactic| repeat (walk_at "g1"))
/-- if c: x = an int, joined -/
local macro_rules | `(tactic| walk_at "when") => `(tactic| (refine g_whenI (i0 := ?wj) (i1 := ?wi) ?wo ?wh ?_; (case wo => exact rfl); (case wh => (intro hw Q' hq; walk_at "go"; exact hq))))
/-- a heap that has only grown -/
local macro_rules | `(tactic| walk_at "same") => `(tactic| repeat (first | exact Same.refl _ | assumption | refine L2.Same.new ?_ (by assumption)))
/-- what stands at a place of a heap that has only grown -/
local macro_rules | `(tactic| walk_at "get") => `(tactic| repeat (first | exact upd_same | assumption | refine upd_get (by assumption) ?_))
def sp_law_regions (K : PySem.W.Frag) : Sp := fun vs H Q _ => ∃ (a : Int) (f : Fd) (s : Addr), vs = [.int a, .ref s] ∧ f.Ok ∧ SqL K H s (fL f) ∧ ∀ D H' gs, Same H H' → RgsAt H' D gs → Q (.ref D) H'
theorem pick2 {b : Bool} {p q L : Nat} (hp : p < L) (hq : q < L) : ∃ n : Nat, n < L ∧ (if b = true then (p : Int) else (q : Int)) = (n : Int) := by
  cases b
  · exact ⟨q, hq, rfl⟩
  · exact ⟨p, hp, rfl⟩
section
variable {P : Program} {wd : World} {K : PySem.W.Frag} {mg : Str → Option Value} {base : Heap} {CF CA CP : Addr}

theorem sc_law_regions : FnScope ["_law_cell_here", "_law_sizes", "_law_picks", "_law_regions_here", "_law_k", "_law_left", "_law_top", "_law_size", "_law_wide", "_law_high"] ["_law_cell_here", "_law_sizes"] (defScope s_law_regions) := ⟨rfl, rfl, rfl, by decide +kernel, rfl, by decide +kernel, by decide +kernel⟩
theorem cal_law_regions (T : Tx K mg CF CA CP) : Cal P wd K mg base 3 "_law_regions" ["_law_cell_here", "_law_sizes"] (sp_law_regions K) := by
  refine T.cal (d := d_law_regions) 81 rfl sc_law_regions (fun _ _ _ _ _ _ us hl => match us, hl with | [_, _], _ => rfl) (fun vs H Q E h => ?_) (fun f cdv A outer s H vs Q E hr h => ?_)
  · obtain ⟨a, f, s, rfl, _⟩ := h
    rfl
  · obtain ⟨a, f, s, rfl, ok, hS, k⟩ := h
    refine ⟨_, (pss_cons (ps_set (i := 2) sc_law_regions.nd rfl (by first | exact Or.inl rfl | exact Or.inr rfl) (pe_cal (cal_law_numbers T) hr (pa_cons (pv 0) (pa_cons pe_int (pa_cons pe_int pa_nil)))))
      (pss_cons (ps_set (i := 3) sc_law_regions.nd rfl (by first | exact Or.inl rfl | exact Or.inr rfl) (pe_lst pa_nil))
      (pss_cons (ps_for PassesOwn.never rfl (pi_range1 (by rfl) (T.nof _ (fre_range)) (pa_cons (pe_op op_modN (pe_ix (ix_listK (K := K)) (pv 2) pe_int (fun _ _ => rfl)) pe_int) pa_nil)) (pg_name (i := 4) sc_law_regions.nd rfl (by first | exact Or.inl rfl | exact Or.inr rfl))
      (pss_cons (ps_set (i := 5) sc_law_regions.nd rfl (by first | exact Or.inl rfl | exact Or.inr rfl) (pe_ifExp (pt_cmpR op_eq (pe_op op_modN (pe_op op_fdivN (pe_ix (ix_listK (K := K)) (pv 2) (pe_op op_add (pe_op op_mul pe_int (pv 4)) pe_int) (fun _ _ => rfl)) pe_int) pe_int) pe_int (nomark _)) (pe_op op_modN (pe_ix (ix_listK (K := K)) (pv 2) (pe_op op_add (pe_op op_mul pe_int (pv 4)) pe_int) (fun _ _ => rfl)) pe_int) (pe_op op_modN (pe_op op_fdivN (pe_ix (ix_listK (K := K)) (pv 2) (pe_op op_add (pe_op op_mul pe_int (pv 4)) pe_int) (fun _ _ => rfl)) pe_int) (pe_ix (ix_listK (K := K)) (pv 1) pe_int (fun _ _ => rfl)))))
      (pss_cons (ps_set (i := 6) sc_law_regions.nd rfl (by first | exact Or.inl rfl | exact Or.inr rfl) (pe_ifExp (pt_cmpR op_eq (pe_op op_modN (pe_op op_fdivN (pe_ix (ix_listK (K := K)) (pv 2) (pe_op op_add (pe_op op_mul pe_int (pv 4)) pe_int) (fun _ _ => rfl)) pe_int) pe_int) pe_int (nomark _)) (pe_op op_modN (pe_ix (ix_listK (K := K)) (pv 2) (pe_op op_add (pe_op op_mul pe_int (pv 4)) pe_int) (fun _ _ => rfl)) pe_int) (pe_op op_modN (pe_op op_fdivN (pe_ix (ix_listK (K := K)) (pv 2) (pe_op op_add (pe_op op_mul pe_int (pv 4)) pe_int) (fun _ _ => rfl)) pe_int) (pe_ix (ix_listK (K := K)) (pv 1) pe_int (fun _ _ => rfl)))))
      (pss_cons (ps_set (i := 7) sc_law_regions.nd rfl (by first | exact Or.inl rfl | exact Or.inr rfl) (pe_ix (ix_listK (K := K)) (pv 2) (pe_op op_add (pe_op op_mul pe_int (pv 4)) pe_int) (fun _ _ => rfl)))
      (pss_cons (ps_set (i := 8) sc_law_regions.nd rfl (by first | exact Or.inl rfl | exact Or.inr rfl) (pe_op op_add pe_int (pe_ifExp (pt_cmpR op_eq (pe_op op_modN (pe_op op_fdivN (pv 7) pe_int) pe_int) pe_int (nomark _)) (pe_op op_modN (pv 7) pe_int) (pe_op op_modN (pe_op op_fdivN (pv 7) pe_int) (pe_ix (ix_listK (K := K)) (pv 1) pe_int (fun _ _ => rfl))))))
      (pss_cons (ps_set (i := 9) sc_law_regions.nd rfl (by first | exact Or.inl rfl | exact Or.inr rfl) (pe_op op_add pe_int (pe_ifExp (pt_cmpR op_eq (pe_op op_modN (pe_op op_fdivN (pv 7) pe_int) pe_int) pe_int (nomark _)) (pe_op op_modN (pe_op op_fdivN (pv 7) pe_int) pe_int) (pe_op op_modN (pe_op op_fdivN (pv 7) pe_int) (pe_ix (ix_listK (K := K)) (pv 1) pe_int (fun _ _ => rfl))))))
      (pss_one (ps_expr (pe_bm PySem.F.plainAttrs_list PySem.F.slot_list_append PySem.F.type_list_append mt_append (pv 3) (pa_cons (pe_tup (pa_cons (pv 5) (pa_cons (pv 6) (pa_cons (pv 8) (pa_cons (pv 9) (pa_cons (pe_op op_modN (pe_op op_fdivN (pv 7) pe_int) pe_int) pa_nil)))))) pa_nil))))))))))
      (pss_one (ps_ret (pv 3)))))), ?_⟩
    walk_at "start"
    have hw := ok.w; have hh := ok.h
    have e3 : ∀ x : Nat, ((x : Int)).fmod 3 = ((x % 3 : Nat) : Int) := fun x => fmodN x 3
    have e4 : ∀ x : Nat, ((x : Int)).fmod 4 = ((x % 4 : Nat) : Int) := fun x => fmodN x 4
    have e17 : ∀ x : Nat, ((x : Int)).fmod 17 = ((x % 17 : Nat) : Int) := fun x => fmodN x 17
    have e64 : ∀ x : Nat, ((x : Int)).fmod 64 = ((x % 64 : Nat) : Int) := fun x => fmodN x 64
    have f64 : ∀ x : Nat, ((x : Int)).fdiv 64 = ((x / 64 : Nat) : Int) := fun x => fdiv_nat (b := 64) rfl
    have f192 : ∀ x : Nat, ((x : Int)).fdiv 192 = ((x / 192 : Nat) : Int) := fun x => fdiv_nat (b := 192) rfl
    have f576 : ∀ x : Nat, ((x : Int)).fdiv 576 = ((x / 576 : Nat) : Int) := fun x => fdiv_nat (b := 576) rfl
    have f3 : ∀ x : Nat, ((x : Int)).fdiv 3 = ((x / 3 : Nat) : Int) := fun x => fdiv_nat (b := 3) rfl
    walk_at "go"
    refine ⟨a, 13, 960000, rfl, by decide, by decide, by decide, fun D1 H1 xs S1 hD1 hxl hxx => ?_⟩
    walk_at "go"
    refine ⟨sz0, fun D hD => ?_⟩
    have nD : H D = none := S1.free hD
    have S2 : Same H (upd H1 D (.lst [])) := S1.new hD
    have hD12 : (upd H1 D (.lst [])) D1 = some (intsO xs) := upd_get hD hD1
    walk_at "go"
    refine g_ixL 0 (SqL.of hD12) rfl (ints_get (by omega)) ?_
    walk_at "go"
    rw [e4]
    walk_at "go"
    refine g_forV (fun i σ H' => Same H H' ∧ H' D1 = some (intsO xs) ∧ ∃ (rs : List V) (gs : List Rg) (v4 v5 v6 v7 v8 v9 : Option V), H' D = some (.lst rs) ∧ Paired (RgV H') rs gs ∧ gs.length = i ∧ i ≤ 3 ∧ σ = [some (.int a), some (.ref s), some (.ref D1), some (.ref D), v4, v5, v6, v7, v8, v9]) (itv_r0 (xs.getD 0 0 % 4)) (fun _ _ _ _ => trivial) ⟨S2, hD12, [], [], none, none, none, none, none, none, upd_same, .nil, rfl, by omega, rfl⟩ (fun i σ H' hi h => ?_) (fun σ H' h => ?_)
    · obtain ⟨S, hp, rs, gs, v4, v5, v6, v7, v8, v9, hDl, hrs, hgl, hi3, e⟩ := h
      subst e
      have hi2 : i ≤ 2 := by omega
      have hS2 := S.seq hS
      have i1 : 3 * (i : Int) + 1 = ((3 * i + 1 : Nat) : Int) := by omega
      have i2 : 3 * (i : Int) + 2 = ((3 * i + 2 : Nat) : Int) := by omega
      have i3 : 3 * (i : Int) + 3 = ((3 * i + 3 : Nat) : Int) := by omega
      have g1 := ints_get (l := xs) (x := 3 * i + 1) (by omega)
      have g2 := ints_get (l := xs) (x := 3 * i + 2) (by omega)
      have g3 := ints_get (l := xs) (x := 3 * i + 3) (by omega)
      generalize xs.getD (3 * i + 1) 0 = x1 at g1
      generalize xs.getD (3 * i + 2) 0 = x2 at g2
      generalize xs.getD (3 * i + 3) 0 = x3 at g3
      walk_at "go"
      refine g_ixL (3 * i + 1) (SqL.of hp) i1 g1 ?_
      walk_at "go"
      rw [f64, e3]
      refine g_ifI (i1 := (x1 % 64 : Nat)) (i2 := (x1 / 192 % f.w : Nat)) (fun _ Q' q => ?_) (fun _ Q' q => ?_) ?_
      · walk_at "go"
        refine g_ixL (3 * i + 1) (SqL.of hp) i1 g1 ?_
        walk_at "go"
        rw [e64]
        exact q
      · walk_at "go"
        refine g_ixL (3 * i + 1) (SqL.of hp) i1 g1 ?_
        walk_at "go"
        refine g_ixL 0 hS2 rfl rfl ?_
        walk_at "go"
        rw [f192, fmodN]
        exact q
      obtain ⟨lf, hlf, elf⟩ := pick2 (b := decide (((x1 / 64 % 3 : Nat) : Int) = 0)) (p := x1 % 64) (q := x1 / 192 % f.w) (L := 64) (Nat.mod_lt _ (by decide)) (by have := Nat.mod_lt (x1 / 192) (show 0 < f.w by omega); omega)
      rw [elf]
      walk_at "go"
      refine g_ixL (3 * i + 2) (SqL.of hp) i2 g2 ?_
      walk_at "go"
      rw [f64, e3]
      refine g_ifI (i1 := (x2 % 64 : Nat)) (i2 := (x2 / 192 % f.h : Nat)) (fun _ Q' q => ?_) (fun _ Q' q => ?_) ?_
      · walk_at "go"
        refine g_ixL (3 * i + 2) (SqL.of hp) i2 g2 ?_
        walk_at "go"
        rw [e64]
        exact q
      · walk_at "go"
        refine g_ixL (3 * i + 2) (SqL.of hp) i2 g2 ?_
        walk_at "go"
        refine g_ixL 1 hS2 rfl rfl ?_
        walk_at "go"
        rw [f192, fmodN]
        exact q
      obtain ⟨tp, htp, etp⟩ := pick2 (b := decide (((x2 / 64 % 3 : Nat) : Int) = 0)) (p := x2 % 64) (q := x2 / 192 % f.h) (L := 64) (Nat.mod_lt _ (by decide)) (by have := Nat.mod_lt (x2 / 192) (show 0 < f.h by omega); omega)
      rw [etp]
      walk_at "go"
      refine g_ixL (3 * i + 3) (SqL.of hp) i3 g3 ?_
      walk_at "go"
      rw [f64, e3]
      refine g_ifI (i1 := (x3 % 64 : Nat)) (i2 := (x3 / 192 % f.w : Nat)) (fun _ Q' q => ?_) (fun _ Q' q => ?_) ?_
      · walk_at "go"
        rw [e64]
        exact q
      · walk_at "go"
        refine g_ixL 0 hS2 rfl rfl ?_
        walk_at "go"
        rw [f192, fmodN]
        exact q
      obtain ⟨wd1, hwd1, ewd1⟩ := pick2 (b := decide (((x3 / 64 % 3 : Nat) : Int) = 0)) (p := x3 % 64) (q := x3 / 192 % f.w) (L := 64) (Nat.mod_lt _ (by decide)) (by have := Nat.mod_lt (x3 / 192) (show 0 < f.w by omega); omega)
      rw [ewd1]
      walk_at "go"
      rw [f64, e3]
      refine g_ifI (i1 := (x3 / 576 % 64 : Nat)) (i2 := (x3 / 576 % f.h : Nat)) (fun _ Q' q => ?_) (fun _ Q' q => ?_) ?_
      · walk_at "go"
        rw [f576, e64]
        exact q
      · walk_at "go"
        refine g_ixL 1 hS2 rfl rfl ?_
        walk_at "go"
        rw [f576, fmodN]
        exact q
      obtain ⟨hi1, hhi1, ehi1⟩ := pick2 (b := decide (((x3 / 64 % 3 : Nat) : Int) = 1)) (p := x3 / 576 % 64) (q := x3 / 576 % f.h) (L := 64) (Nat.mod_lt _ (by decide)) (by have := Nat.mod_lt (x3 / 576) (show 0 < f.h by omega); omega)
      rw [ehi1]
      walk_at "go"
      refine g_bm ?_
      walk_at "go"
      refine ⟨.inl ⟨rfl, _, SqL.of hDl⟩, ?_⟩
      walk_at "go"
      rw [f3, e17]
      refine ⟨sz5, fun p hpp => ?_⟩
      walk_at "go"
      have nD1 : D1 ≠ D := fun q => by rw [q, hD] at hD1; cases hD1
      have npD : p ≠ D := fun q => by rw [q, hDl] at hpp; cases hpp
      refine ⟨D, rs, _, rfl, rfl, upd_get hpp hDl, lt_sz (by rw [hrs.length]; omega), ?_⟩
      walk_at "go"
      refine ⟨(S.new hpp).set nD, by rw [upd_ne nD1]; exact upd_get hpp hp, rs ++ [.ref p], gs ++ [⟨lf, tp, 1 + wd1, 1 + hi1, x3 / 3 % 17⟩], _, _, _, _, _, _, upd_same, ?_, by rw [List.length_append, hgl]; rfl, by omega, rfl⟩
      refine Paired.snoc (hrs.mono fun x y hx => ?_) ⟨p, rfl, ?_, ⟨hlf, htp, ?_, ?_, ?_⟩⟩
      · obtain ⟨b, eb, hb, o⟩ := hx
        have nb : b ≠ D := fun q => by rw [q, hDl] at hb; cases hb
        exact ⟨b, eb, by rw [upd_ne nb]; exact upd_get hpp hb, o⟩
      · rw [upd_ne npD]
        exact upd_same
      · show 1 ≤ 1 + wd1 ∧ 1 + wd1 ≤ 64
        omega
      · show 1 ≤ 1 + hi1 ∧ 1 + hi1 ≤ 64
        omega
      · show x3 / 3 % 17 ≤ 16
        have := Nat.mod_lt (x3 / 3) (show 0 < 17 by decide)
        omega
    · obtain ⟨S, hp, rs, gs, v4, v5, v6, v7, v8, v9, hDl, hrs, hgl, hi3, e⟩ := h
      subst e
      walk_at "go"
      exact k D H' gs S ⟨rs, hDl, hrs, by omega⟩
end

end PP
namespace PP
open PySem PySem.Spec PyProof.Rows L2
/-- a name's new value, in a state that is written out -/
local macro_rules | `(tactic| walk_at "set") => `(tactic| (simp only [List.set_cons_succ, List.set_cons_zero]; exact rfl))
local macro_rules | `(tactic| walk_at "start") => `(tactic| (refine g_start (σ' := ?sgm) ?hstart ?_; (case hstart => (simp only [start_eS, start_eN, start_e0]; exact rfl))))
/-- one step of a reading -/
local macro_rules | `(tactic| walk_at "g1") => `(tactic| first
  | fail)
local macro_rules | `(tactic| walk_at "go") => `(tactic| repeat (walk_at "g1"))
/-- if c: x = an int, joined -/
local macro_rules | `(tactic| walk_at "when") => `(tactic| (refine g_whenI (i0 := ?wj) (i1 := ?wi) ?wo ?wh ?_; (case wo => exact rfl); (case wh => (intro hw Q' hq; walk_at "go"; exact hq))))
/-- a heap that has only grown -/
local macro_rules | `(tactic| walk_at "same") => `(tactic| repeat (first | exact Same.refl _ | assumption | refine L2.Same.new ?_ (by assumption)))
/-- what stands at a place of a heap that has only grown -/
local macro_rules | `(tactic| walk_at "get") => `(tactic| repeat (first | exact upd_same | assumption | refine upd_get (by assumption) ?_))
/-! ### data for == -/
section
variable {K : PySem.W.Frag} {H : Hp}
theorem dpall_of {α : Type} {P : V → α → Prop} {g : α → PyData} (h : ∀ v a, P v a → Dp K H v (g a)) : ∀ {vs : List V} {as : List α}, Paired P vs as → DpAll K H vs (as.map g)
  | _, _, .nil => .nil
  | _, _, .cons h1 t => .cons (h _ _ h1) (dpall_of h t)
theorem dpall_ints : ∀ l : List Nat, DpAll K H (l.map fun (n : Nat) => V.int n) (l.map fun (n : Nat) => PyData.int n)
  | [] => .nil
  | n :: l => .cons (.int _) (dpall_ints l)
def rowD (l : List Nat) : PyData := .list (l.map fun (n : Nat) => PyData.int n)
def rowsD (v : Pv) : PyData := .list (v.map rowD)
def keyD (k : K3) : PyData := .tuple [.int (k.1 : Nat), .int (k.2.1 : Nat), .int (k.2.2 : Nat)]
def enD (e : En) : PyData := .tuple [keyD e.1, .int (e.2 : Nat)]
theorem dp_row {v : V} {l : List Nat} (h : RowV H v l) : Dp K H v (rowD l) := by
  obtain ⟨b, e, hb⟩ := h
  subst e
  exact .lst (SqL.of hb) (dpall_ints l)
theorem dp_rows {r : Addr} {v : Pv} (h : RowsAt H r v) : Dp K H (.ref r) (rowsD v) := by
  obtain ⟨rs, h1, h2⟩ := h
  exact .lst (SqL.of h1) (dpall_of (fun _ _ q => dp_row q) h2)
theorem dp_key {v : V} {k : K3} (h : KyV H v k) : Dp K H v (keyD k) := by
  obtain ⟨r, e, hr⟩ := h
  subst e
  exact .tup (SqT.of hr) (.cons (.int _) (.cons (.int _) (.cons (.int _) .nil)))
theorem dp_en {v : V} {e : En} (h : EnV H v e) : Dp K H v (enD e) := by
  obtain ⟨r, kr, q, hr, hk⟩ := h
  subst q
  exact .tup (SqT.of hr) (.cons (dp_key hk) (.cons (.int _) .nil))
theorem dp_ens {r : Addr} {rs : List V} {es : List En} (h : H r = some (.lst rs)) (hp : Paired (EnV H) rs es) : Dp K H (.ref r) (.list (es.map enD)) := .lst (SqL.of h) (dpall_of (fun _ _ q => dp_en q) hp)
theorem dp_nil {r : Addr} (h : H r = some (.lst [])) : Dp K H (.ref r) (.list []) := .lst (SqL.of h) .nil
end
theorem layall_map {α : Type} {g : α → PyData} (h : ∀ a, (g a).canLay0 = true) : ∀ l : List α, PyData.canLayAll0 (l.map g) = true
  | [] => rfl
  | a :: l => by
    show ((g a).canLay0 && PyData.canLayAll0 (l.map g)) = true
    rw [h a, layall_map h l]
    rfl
theorem depall_map {α : Type} {g : α → PyData} {c : Nat} (h : ∀ a, (g a).depth ≤ c) : ∀ l : List α, PyData.depthAll (l.map g) ≤ c
  | [] => Nat.zero_le _
  | a :: l => by
    have := depall_map h l
    have := h a
    show max (g a).depth (PyData.depthAll (l.map g)) ≤ c
    omega
theorem row_lay (l : List Nat) : (rowD l).canLay0 = true := layall_map (g := fun (n : Nat) => PyData.int n) (fun _ => rfl) l
theorem row_dep (l : List Nat) : (rowD l).depth ≤ 1 := Nat.succ_le_succ (depall_map (g := fun (n : Nat) => PyData.int n) (c := 0) (fun _ => Nat.le_refl _) l)
theorem rows_sh (v : Pv) : SeqAt.shaped (rowsD v) = true := by
  have h1 : (rowsD v).canLay0 = true := layall_map row_lay v
  have h2 : (rowsD v).depth ≤ 2 := Nat.succ_le_succ (depall_map row_dep v)
  show ((rowsD v).canLay0 && decide ((rowsD v).depth ≤ 64)) = true
  rw [h1, decide_eq_true (by omega)]
  rfl
theorem ens_sh (es : List En) : SeqAt.shaped (.list (es.map enD)) = true := by
  have h1 : (PyData.list (es.map enD)).canLay0 = true := layall_map (fun _ => rfl) es
  have h2 : (PyData.list (es.map enD)).depth ≤ 3 := Nat.succ_le_succ (depall_map (c := 2) (fun _ => by show max (max _ _ + 1) _ + 1 ≤ 2; exact Nat.le_refl _) es)
  show ((PyData.list (es.map enD)).canLay0 && decide ((PyData.list (es.map enD)).depth ≤ 64)) = true
  rw [h1, decide_eq_true (by omega)]
  rfl
theorem nil_sh : SeqAt.shaped (.list []) = true := rfl
theorem eqv_ints : ∀ l : List Nat, PyData.eqvAll (l.map fun (n : Nat) => PyData.int n) (l.map fun (n : Nat) => PyData.int n) = true
  | [] => by unfold PyData.eqvAll; rfl
  | n :: l => by
    rw [List.map_cons]
    unfold PyData.eqvAll
    rw [eqv_ints l]
    unfold PyData.eqv
    simp
theorem eqv_rows : ∀ v : Pv, PyData.eqvAll (v.map rowD) (v.map rowD) = true
  | [] => by unfold PyData.eqvAll; rfl
  | l :: v => by
    rw [List.map_cons]
    unfold PyData.eqvAll
    rw [eqv_rows v]
    unfold rowD PyData.eqv
    rw [eqv_ints l]
    rfl
theorem eqv_rowsD (v : Pv) : PyData.eqv (rowsD v) (rowsD v) = true := by
  unfold rowsD PyData.eqv
  exact eqv_rows v
theorem eqv_nil (ds : List PyData) : PyData.eqv (.list ds) (.list []) = decide (ds = []) := by
  unfold PyData.eqv
  cases ds with
  | nil => unfold PyData.eqvAll; rfl
  | cons d ds => unfold PyData.eqvAll; rfl

end PP
namespace PP
open PySem PySem.Spec PyProof.Rows L2
/-- a name's new value, in a state that is written out -/
local macro_rules | `(tactic| walk_at "set") => `(tactic| (simp only [List.set_cons_succ, List.set_cons_zero]; exact rfl))
local macro_rules | `(tactic| walk_at "start") => `(tactic| (refine g_start (σ' := ?sgm) ?hstart ?_; (case hstart => (simp only [start_eS, start_eN, start_e0]; exact rfl))))
/-- one step of a reading -/
local macro_rules | `(tactic| walk_at "g1") => `(tactic| first
  | ((with_reducible refine g_var (v := ?vv) ?hvv ?_); (case hvv => exact rfl))
  | ((with_reducible refine g_nxS (σ' := ?sgm) ?hset ?_); (case hset => walk_at "set"))
  | ((with_reducible refine g_gnameS (σ' := ?sgm) ?hset ?_); (case hset => walk_at "set"))
  | with_reducible first
    | refine g_c ?_
    | refine g_op ?_
    | refine g_I0 ?_
    | refine g_tst ?_
    | refine g_blc ?_
    | refine g_seq ?_
    | refine g_set ?_
    | refine g_ret ?_
    | refine g_if ?_
    | refine g_or ?_
    | refine g_not ?_
    | refine g_eqI ?_
    | refine g_neI ?_
    | refine g_B ?_
    | refine g_cons ?_
    | refine g_nil ?_
    | refine g_call ?_
    | refine g_cb ?_
    | refine g_met ?_
    | refine g_meA (by assumption) rfl ?_
    | refine g_meP (by assumption) rfl ?_
    | refine g_andV ?_
    | refine g_orV ?_
    | refine g_lst ?_
    | refine g_nx ?_
    | refine g_nxt ?_
    | refine g_for ?_
    | refine g_ilst ?_
    | refine g_gname ?_
    | refine g_lc ?_
    | refine g_m1 ?_
    | refine g_m1c ?_
    | refine g_yes ?_
    | refine g_true ?_
    | refine g_nF ?_
    | refine g_dF (by omega) ?_
    | refine g_ndF (by omega) ?_
  | ((with_reducible refine ⟨tx _, rfl, sz_tx ?hzt, ?_⟩); (case hzt => first | omega | (simp only [List.length_nil, List.length_cons, List.length_append]; omega)); rw [tx_len])
  | (with_reducible refine ⟨tx _, tx _, rfl, rfl, ?_⟩; rw [starts_tx])
  | with_reducible refine g_exR ?_)
local macro_rules | `(tactic| walk_at "go") => `(tactic| repeat (walk_at "g1"))
/-- if c: x = an int, joined -/
local macro_rules | `(tactic| walk_at "when") => `(tactic| (refine g_whenI (i0 := ?wj) (i1 := ?wi) ?wo ?wh ?_; (case wo => exact rfl); (case wh => (intro hw Q' hq; walk_at "go"; exact hq))))
/-- a heap that has only grown -/
local macro_rules | `(tactic| walk_at "same") => `(tactic| repeat (first | exact Same.refl _ | assumption | refine L2.Same.new ?_ (by assumption)))
/-- what stands at a place of a heap that has only grown -/
local macro_rules | `(tactic| walk_at "get") => `(tactic| repeat (first | exact upd_same | assumption | refine upd_get (by assumption) ?_))
def sp_law (K : PySem.W.Frag) : Sp := fun vs H Q _ => ∃ (a : Addr) (ns : List Int), vs = [.ref a] ∧ SqL K H a (ns.map V.int) ∧ ∀ H', Q (.bl true) H'
theorem ans_len (f : Fd) (v : Pv) : ∀ (es : List En) (n : Nat), (ansM f v n es).length ≤ es.length
  | [], _ => Nat.le_refl _
  | e :: es, n => by
    unfold ansM
    rw [List.length_append, List.length_cons]
    have h1 : (if ((cdM f v e.1).drop e.2).take n = [] then ([] : List Pc) else [(e.1, e.2, ((cdM f v e.1).drop e.2).take n)]).length ≤ 1 := by
      split
      · exact Nat.zero_le _
      · exact Nat.le_refl _
    have h2 : (if (((cdM f v e.1).drop e.2).take n).length < ((cdM f v e.1).drop e.2).length then ([] : List Pc) else ansM f v (n - (((cdM f v e.1).drop e.2).take n).length) es).length ≤ es.length := by
      split
      · exact Nat.zero_le _
      · exact ans_len f v es _
    omega
theorem RowsAt.put {H H' : Hp} {r t : Addr} {v : Pv} {m : Mp} (h : RowsAt H r v) (ht : H t = some (.dT (encM m))) (S : SameB t H H') : RowsAt H' r v := by
  obtain ⟨rs, h1, h2⟩ := h
  refine ⟨rs, S _ _ (fun q => by rw [q, ht] at h1; cases h1) h1, h2.mono fun x y hx => ?_⟩
  obtain ⟨b, e, hb⟩ := hx
  exact ⟨b, e, S _ _ (fun q => by rw [q, ht] at hb; cases hb) hb⟩
theorem okF {P : Program} {w : World} {K : PySem.W.Frag} {mg : Str → Option Value} {base : Heap} {k : Nat} {N ps : List Str} {sp : Sp} {d : He.DefD} {f : Addr} {fd : FuncData} (F : FunD K d.name d.qual d.params d.body d.scope [] [] f fd) (S : FnScope N ps d.scope) (len : ∀ vs H Q E, sp vs H Q E → vs.length = ps.length)
    (body : BodyOk P w K mg base k N d sp) : FnOk P w K mg base CX0 (k + 1) f fd ps sp :=
  F.ok S len (fun cdv A outer s H vs Q E hr h => by
    obtain ⟨t, h1, h2⟩ := body f cdv A outer s H vs Q E hr h
    exact ⟨t, PSs.nox h1, h2⟩)
section
variable {P : Program} {wd : World} {K : PySem.W.Frag} {mg : Str → Option Value} {base : Heap} {CF CA CP : Addr}

theorem sc_law : FnScope ["_law_script", "_law_sizes", "_law_frame_here", "_law_values_here", "_law_picture_here", "_law_keys", "_law_arrived", "_law_regions_here", "_law_asked", "_law_before", "_law_due", "_law_entry", "_law_count", "_law_pieces", "_law_total", "_law_there", "_law_piece", "_law_new", "_law_key", "_law_after"] ["_law_script"] (defScope s_law) := ⟨rfl, rfl, rfl, by decide +kernel, rfl, by decide +kernel, by decide +kernel⟩
theorem ok_law (T : Tx K mg CF CA CP) {f0 : Addr} {fd0 : FuncData} (F0 : FunD K d_law.name d_law.qual d_law.params d_law.body d_law.scope [] [] f0 fd0) : FnOk P wd K mg base CX0 14 f0 fd0 ["_law_script"] (sp_law K) := by
  refine okF F0 sc_law (fun vs H Q E h => ?_) (fun f cdv A outer s H vs Q E hr h => ?_)
  · obtain ⟨sc, ns, rfl, _⟩ := h
    rfl
  · obtain ⟨sc, ns, rfl, hS, k⟩ := h
    refine ⟨_, (pss_cons (ps_set (i := 1) sc_law.nd rfl (by first | exact Or.inl rfl | exact Or.inr rfl) (pe_cal (cal_law_tiny T) hr (pa_cons (pe_cal (cal_law_cell T) hr (pa_cons (pv 0) (pa_cons pe_int pa_nil))) pa_nil)))
      (pss_cons (ps_set (i := 2) sc_law.nd rfl (by first | exact Or.inl rfl | exact Or.inr rfl) (pe_cal (cal_law_frame T) hr (pa_cons (pv 1) pa_nil)))
      (pss_cons (ps_set (i := 3) sc_law.nd rfl (by first | exact Or.inl rfl | exact Or.inr rfl) (pe_cal (cal_law_values T) hr (pa_cons (pe_cal (cal_law_cell T) hr (pa_cons (pv 0) (pa_cons pe_int pa_nil))) (pa_cons (pv 1) pa_nil))))
      (pss_cons (ps_set (i := 4) sc_law.nd rfl (by first | exact Or.inl rfl | exact Or.inr rfl) (pe_cal (cal_law_picture T) hr (pa_cons (pv 1) (pa_cons (pv 3) pa_nil))))
      (pss_cons (ps_set (i := 5) sc_law.nd rfl (by first | exact Or.inl rfl | exact Or.inr rfl) (pe_cal (cal_law_order T) hr (pa_cons (pv 1) (pa_cons (pe_cal (cal_law_tiles T) hr (pa_cons (pv 1) pa_nil)) pa_nil))))
      (pss_cons (ps_set (i := 6) sc_law.nd rfl (by first | exact Or.inl rfl | exact Or.inr rfl) (pe_cal (cal_law_cut T) hr (pa_cons (pv 2) (pa_cons (pv 4) (pa_cons (pv 5) (pa_cons (pe_cal (cal_law_numbers T) hr (pa_cons (pe_cal (cal_law_cell T) hr (pa_cons (pv 0) (pa_cons pe_int pa_nil))) (pa_cons (pe_callB (call_len_seqK (K := K)) (by rfl) (T.nof _ (fre_len)) PySem.boot_len (pa_cons (pv 5) pa_nil)) (pa_cons pe_int pa_nil)))) pa_nil))))))
      (pss_cons (ps_set (i := 7) sc_law.nd rfl (by first | exact Or.inl rfl | exact Or.inr rfl) (pe_cal (cal_law_regions T) hr (pa_cons (pe_cal (cal_law_cell T) hr (pa_cons (pv 0) (pa_cons pe_int pa_nil))) (pa_cons (pv 1) pa_nil))))
      (pss_cons (ps_set (i := 8) sc_law.nd rfl (by first | exact Or.inl rfl | exact Or.inr rfl) (pe_cal (cal_request T) hr (pa_cons (pv 6) (pa_cons (pv 7) pa_nil))))
      (pss_cons (ps_set (i := 9) sc_law.nd rfl (by first | exact Or.inl rfl | exact Or.inr rfl) (pe_cal (cal_missing T) hr (pa_cons (pv 6) (pa_cons (pv 4) pa_nil))))
      (pss_cons (ps_set (i := 10) sc_law.nd rfl (by first | exact Or.inl rfl | exact Or.inr rfl) (pe_callB (cr_sum (by rfl)) (by rfl) (T.nof _ (fre_sum)) (by decide +kernel) (pa_cons (pe_lc (own := [("_law_entry", 11)]) rfl sc_law.nd (pi_listK (K := K) (pv 8)) (blkOk_by (N := ["_law_script", "_law_sizes", "_law_frame_here", "_law_values_here", "_law_picture_here", "_law_keys", "_law_arrived", "_law_regions_here", "_law_asked", "_law_before", "_law_due", "_law_entry", "_law_count", "_law_pieces", "_law_total", "_law_there", "_law_piece", "_law_new", "_law_key", "_law_after"]) (sc := defScope s_law) (by decide +kernel)) (fun _ _ _ _ _ => (pg_name (i := 11) sc_law.nd rfl (by first | exact Or.inl rfl | exact Or.inr rfl))) (fun _ _ _ _ _ => pts_nil) (fun _ _ _ _ _ => (pe_op op_sub (pe_callB call_len_str (by rfl) (T.nof _ (fre_len)) PySem.boot_len (pa_cons (pe_cal (cal_packet_code T) hr (pa_cons (pv 2) (pa_cons (pv 4) (pa_cons (pe_ix (ix_tupK (K := K)) (pv 11) pe_int (fun _ _ => rfl)) pa_nil)))) pa_nil)) (pe_ix (ix_tupK (K := K)) (pv 11) pe_int (fun _ _ => rfl))))) pa_nil)))
      (pss_cons (ps_if (PW.pt (pw_or (pt_not (pt_val (pe_cal (cal_law_is_int T) hr (pa_cons (pv 9) pa_nil)))) (pw_or (pt_cmpR op_ne (pv 9) (pv 10) (nomark _)) (pw_or1 (pt_cmpR op_ne (pe_cmpR op_eq (pv 9) pe_int (nomark _)) (pe_cmpR (op_eqD hr.units) (pv 8) (pe_lst pa_nil) (nomark _)) (nomark _))))))
      (pss_one (ps_ret pe_bl))
      pss_nil)
      (pss_cons (ps_set (i := 12) sc_law.nd rfl (by first | exact Or.inl rfl | exact Or.inr rfl) (pe_ix (ix_listK (K := K)) (pe_cal (cal_law_numbers T) hr (pa_cons (pe_cal (cal_law_cell T) hr (pa_cons (pv 0) (pa_cons pe_int pa_nil))) (pa_cons pe_int (pa_cons (pe_op op_add (pv 9) pe_int) pa_nil)))) pe_int (fun _ _ => rfl)))
      (pss_cons (ps_set (i := 13) sc_law.nd rfl (by first | exact Or.inl rfl | exact Or.inr rfl) (pe_cal (cal_answer T) hr (pa_cons (pv 2) (pa_cons (pv 4) (pa_cons (pv 8) (pa_cons (pv 12) pa_nil))))))
      (pss_cons (ps_set (i := 14) sc_law.nd rfl (by first | exact Or.inl rfl | exact Or.inr rfl) pe_int)
      (pss_cons (ps_set (i := 15) sc_law.nd rfl (by first | exact Or.inl rfl | exact Or.inr rfl) (pe_mcal0 T.cA.cl (mcal_Arrived_digit_count T) hr (pv 6)))
      (pss_cons (ps_for PassesOwn.never rfl (pi_listK (K := K) (pv 13)) (pg_name (i := 16) sc_law.nd rfl (by first | exact Or.inl rfl | exact Or.inr rfl))
      (pss_cons (ps_set (i := 17) sc_law.nd rfl (by first | exact Or.inl rfl | exact Or.inr rfl) (pe_mcal T.cA.cl (mcal_Arrived_accept T) hr (pv 6) (pa_cons (pe_ix (ix_tupK (K := K)) (pv 16) pe_int (fun _ _ => rfl)) (pa_cons (pe_ix (ix_tupK (K := K)) (pv 16) pe_int (fun _ _ => rfl)) (pa_cons (pe_ix (ix_tupK (K := K)) (pv 16) pe_int (fun _ _ => rfl)) pa_nil)))))
      (pss_cons (ps_if (PW.pt (pw_or (pt_not (pt_val (pe_cal (cal_law_is_int T) hr (pa_cons (pv 17) pa_nil)))) (pw_or (pt_cmpR op_ne (pv 17) (pe_callB call_len_str (by rfl) (T.nof _ (fre_len)) PySem.boot_len (pa_cons (pe_ix (ix_tupK (K := K)) (pv 16) pe_int (fun _ _ => rfl)) pa_nil)) (nomark _)) (pw_or1 (pt_cmpR op_lt (pv 17) pe_int (nomark _))))))
      (pss_one (ps_ret pe_bl))
      pss_nil)
      (pss_one (ps_set (i := 14) sc_law.nd rfl (by first | exact Or.inl rfl | exact Or.inr rfl) (pe_op op_add (pv 14) (pv 17)))))))
      (pss_cons (ps_if (PW.pt (pw_or (pt_cmpR op_ne (pv 14) (pe_callB (call_min2 rfl) (by rfl) (T.nof _ (fre_min)) (by decide +kernel) (pa_cons (pv 12) (pa_cons (pv 9) pa_nil))) (nomark _)) (pw_or1 (pt_cmpR op_ne (pe_mcal0 T.cA.cl (mcal_Arrived_digit_count T) hr (pv 6)) (pe_op op_add (pv 15) (pv 14)) (nomark _)))))
      (pss_one (ps_ret pe_bl))
      pss_nil)
      (pss_cons (ps_for PassesOwn.never rfl (pi_listK (K := K) (pv 5)) (pg_name (i := 18) sc_law.nd rfl (by first | exact Or.inl rfl | exact Or.inr rfl))
      (pss_one (ps_if (pt_not (pt_val (pe_m1 PySem.F.slot_str_startswith PySem.F.type_str_startswith mt_startswith (pe_cal (cal_packet_code T) hr (pa_cons (pv 2) (pa_cons (pv 4) (pa_cons (pv 18) pa_nil)))) (pe_mcal T.cA.cl (mcal_Arrived_digits T) hr (pv 6) (pa_cons (pv 18) pa_nil)))))
      (pss_one (ps_ret pe_bl))
      pss_nil)))
      (pss_cons (ps_set (i := 19) sc_law.nd rfl (by first | exact Or.inl rfl | exact Or.inr rfl) (pe_cal (cal_missing T) hr (pa_cons (pv 6) (pa_cons (pv 4) pa_nil))))
      (pss_cons (ps_if (PW.pt (pw_or (pt_not (pt_val (pe_cal (cal_law_is_int T) hr (pa_cons (pv 19) pa_nil)))) (pw_or (pt_cmpR op_lt (pv 19) pe_int (nomark _)) (pw_or1 (pt_cmpR op_gt (pv 19) (pe_callB (call_max2 rfl) (by rfl) (T.nof _ (fre_max)) (by decide +kernel) (pa_cons pe_int (pa_cons (pe_op op_sub (pv 9) (pv 12)) pa_nil))) (nomark _))))))
      (pss_one (ps_ret pe_bl))
      pss_nil)
      (pss_one (ps_ret (pe_or (pe_cmpR op_gt (pv 19) pe_int (nomark _)) (pe_one (pe_and (pe_cmpR (op_eqD hr.units) (pe_mcal0 T.cP.cl (mcal_Picture_rows T) hr (pe_cal (cal_view T) hr (pa_cons (pv 6) (pa_cons pe_str pa_nil)))) (pv 3) (nomark _)) (pe_one (pe_cmpR (op_eqD hr.units) (pe_cal (cal_request T) hr (pa_cons (pv 6) (pa_cons (pv 7) pa_nil))) (pe_lst pa_nil) (nomark _)))))))))))))))))))))))))))), ?_⟩
    walk_at "start"
    walk_at "go"
    refine ⟨sc, ns, 0, rfl, hS, fun n1 => ?_⟩
    walk_at "go"
    refine ⟨n1, rfl, fun sz H1 f S1 ok hsz => ?_⟩
    walk_at "go"
    refine ⟨f, sz, rfl, ok, SqL.of hsz, fun fr H2 S2 hF => ?_⟩
    have hsz2 := S2 _ _ hsz
    walk_at "go"
    have S12 := S1.trans S2
    refine ⟨sc, ns, 1, rfl, S12.seq hS, fun n2 => ?_⟩
    walk_at "go"
    refine ⟨n2, f, sz, rfl, ok, SqL.of hsz2, fun vl H3 v S3 hv hvl => ?_⟩
    have hsz3 := S3 _ _ hsz2
    have hF3 := hF.up S3
    walk_at "go"
    refine ⟨f, sz, vl, v, rfl, ok, hv, SqL.of hsz3, hvl, fun pi H4 S4 hP => ?_⟩
    have hsz4 := S4 _ _ hsz3
    have hF4 := hF3.up S4
    have hvl4 := hvl.up S4
    have S14 := (S12.trans S3).trans S4
    walk_at "go"
    refine ⟨f, sz, rfl, ok, SqL.of hsz4, ?_⟩
    walk_at "go"
    refine ⟨f, sz, rfl, ok, SqL.of hsz4, fun ky H5 rs S5 hky hks => ?_⟩
    have hsz5 := S5 _ _ hsz4
    have hF5 := hF4.up S5
    have hvl5 := hvl4.up S5
    have hP5 := hP.up S5
    have S15 := S14.trans S5
    walk_at "go"
    refine ⟨sc, ns, 2, rfl, S15.seq hS, fun n3 => ?_⟩
    walk_at "go"
    refine ⟨ky, rs, rfl, .inl (SqL.of hky), ?_⟩
    walk_at "go"
    refine ⟨n3, rs.length, 960, rfl, by rw [hks.length]; have := keysM_le ok; omega, by decide, by decide, fun pk H6 xs S6 hpk hxl _ => ?_⟩
    walk_at "go"
    refine ⟨f, v, fr, pi, ky, pk, rs, xs, rfl, hF5.up S6, hP5.up S6, ok, hv, S6 _ _ hky, hks.up S6, hpk, by rw [hxl, hks.length], fun ar t H7 m S7 nt hA hm hml => ?_⟩
    have S57 := S6.trans S7
    have hsz7 := S57 _ _ hsz5
    have hF7 := hF5.up S57
    have hvl7 := hvl5.up S57
    have hP7 := hP5.up S57
    have hky7 := S57 _ _ hky
    have hks7 := hks.up S57
    have S17 := S15.trans S57
    walk_at "go"
    refine ⟨sc, ns, 3, rfl, S17.seq hS, fun n4 => ?_⟩
    walk_at "go"
    refine ⟨n4, f, sz, rfl, ok, SqL.of hsz7, fun rg H8 gs S8 hrg => ?_⟩
    have hA8 := hA.up S8
    walk_at "go"
    refine ⟨ar, fr, t, rg, f, v, m, gs, rfl, hA8, ok, hm.ok, hrg, fun ak H9 ers pl S9 hpl hak hens => ?_⟩
    have S79 := S8.trans S9
    have hA9 := hA.up S79
    have hP9 := hP7.up S79
    have hF9 := hF7.up S79
    have hvl9 := hvl7.up S79
    have hky9 := S79 _ _ hky7
    have hks9 := hks7.up S79
    have hrg9 := hrg.up S9
    have S19 := S17.trans S79
    walk_at "go"
    refine ⟨ar, pi, fr, t, f, v, m, rfl, hA9, hP9, ok, hv, hm.ok, fun H10 S10 => ?_⟩
    walk_at "go"
    have hE := req_ok (v := v) ok hm.ok hpl
    have hdue := due_mis (f := f) (v := v) (m := m) hpl
    have hnil := req_nil (v := v) ok hm.ok hpl
    have hesl : (reqM f m pl).length ≤ 225 := by
      unfold reqM
      rw [List.length_map]
      have h1 := List.length_filter_le (opn f m) pl
      have h2 := keysM_le ok
      have h3 := hpl.length_eq
      omega
    generalize hes : reqM f m pl = es at hens hE hdue hnil hesl
    have hersl := hens.length
    have hak10 := S10 _ _ hak
    refine ⟨⟨_, SqL.of hak10⟩, ?_⟩
    refine g_lcV (fun i acc _ => acc = (((es.map fun e => (cdM f v e.1).length - e.2).take i).map fun (n : Nat) => ((n : Nat) : Int)).map V.int) (by omega) (itv_l ak ers) (fun H2 S => S.seq (SqL.of hak10)) rfl (fun D i acc H2 Nx hi hD hH S hI hN KK hK R hR => ?_) (fun D acc H11 hD hH S11 hI => ?_)
    · rw [hersl] at hi
      obtain ⟨r, kr, er, hr, hkr⟩ := pair_at (d := V.non) hens hi
      obtain ⟨hok, he2, ho, hlt⟩ := hE.e _ (List.getElem_mem hi)
      have h20 := (full_find ok v hok).2.2
      have SS := S10.trans S
      rw [er]
      walk_at "go"
      refine hR _ _ ⟨rfl, ?_⟩
      walk_at "go"
      refine g_ixT 0 (SqT.of (SS _ _ hr)) rfl rfl ?_
      walk_at "go"
      refine ⟨f, fr, pi, v, es[i].1, kr, rfl, hF9.up SS, hP9.up SS, ok, hv, hkr.up SS, hok, fun H3 S3' => ?_⟩
      walk_at "go"
      refine g_ixT 1 (SqT.of (S3' _ _ (SS _ _ hr))) rfl rfl ?_
      walk_at "go"
      refine hK _ _ S3' ?_
      have em : (((cdM f v es[i].1).length : Nat) : Int) - ((es[i].2 : Nat) : Int) = (((cdM f v es[i].1).length - es[i].2 : Nat) : Int) := by omega
      rw [em, hI, List.take_succ_eq_append_getElem (by rw [List.length_map]; exact hi), List.map_append, List.map_append, List.getElem_map]
      rfl
    have S911 := S10.trans S11
    walk_at "go"
    have esum : ∀ L : List Nat, (L.map fun (n : Nat) => ((n : Nat) : Int)).sum = ((L.sum : Nat) : Int) := fun L => by
      induction L with
      | nil => rfl
      | cons a L ih =>
        rw [List.map_cons, List.sum_cons, List.sum_cons, ih]
        omega
    have hsl : SqL K H11 D (((es.map fun e => (cdM f v e.1).length - e.2).map fun (n : Nat) => ((n : Nat) : Int)).map V.int) := by
      rw [hersl] at hI
      rw [List.take_of_length_le (by rw [List.length_map]; exact Nat.le_refl _)] at hI
      rw [← hI]
      exact SqL.of hH
    refine ⟨D, _, rfl, hsl, ?_⟩
    rw [esum, hdue]
    walk_at "go"
    refine ⟨_, rfl, ?_⟩
    walk_at "go"
    refine ⟨sz0, fun p hp => ?_⟩
    have hakp := upd_get (u := .lst []) hp (S11 _ _ hak10)
    have hensp : Paired (EnV (upd H11 p (.lst []))) ers es := hens.mono fun _ _ q => (q.up S911).up (same_new hp)
    refine ⟨.list (es.map enD), .list [], dp_ens hakp hensp, dp_nil upd_same, ens_sh es, nil_sh, ?_⟩
    have hdec : decide (es.map enD = []) = decide (((misM f v m : Nat) : Int) = 0) := by
      rw [decide_eq_decide, List.map_eq_nil_iff, hnil]
      omega
    rw [eqv_nil, hdec]
    have S912 := S911.trans (same_new hp (o := .lst []))
    generalize (upd H11 p (.lst [])) = H12 at hakp hensp S912 ⊢
    have hml4 := mis_le ok v m (keysM_le ok)
    refine g_neB ?_
    rw [beq_self_eq_true]
    walk_at "go"
    refine ⟨sc, ns, 4, rfl, (S19.trans S912).seq hS, fun n5 => ?_⟩
    walk_at "go"
    refine ⟨n5, 1, misM f v m + 3, rfl, by decide, by omega, by omega, fun nD H13 ys S13 hnD hyl hyy => ?_⟩
    walk_at "go"
    refine g_ixL 0 (SqL.of hnD) rfl (ints_get (by omega)) ?_
    have hcnt : ys.getD 0 0 < misM f v m + 3 := by
      rw [List.getD_eq_getElem?_getD, List.getElem?_eq_getElem (by omega)]
      exact hyy _ (List.getElem_mem _)
    generalize ys.getD 0 0 = cnt at hcnt
    walk_at "go"
    have S913 := S912.trans S13
    refine ⟨f, fr, pi, ak, v, es, ers, cnt, rfl, hF9.up S913, hP9.up S913, ok, hv, S13 _ _ hakp, hensp.mono fun _ _ q => q.up S13, hE.nd, by omega, fun e he => ⟨(hE.e e he).1, ?_⟩, by omega, fun pa H14 ps S14' hpa hps => ?_⟩
    · have h1 := (hE.e e he).2.2.2
      have h2 := (full_find ok v (hE.e e he).1).2.2
      omega
    have hPc := ans_ok hm.ok es cnt hE
    have htot := ans_total f v es cnt
    rw [hdue] at htot
    have hpcl := ans_len f v es cnt
    generalize ansM f v cnt es = pcs at hps hPc htot hpcl
    have S914 := S913.trans S14'
    have hA14 := hA9.up S914
    have hAo := hA14.o
    walk_at "go"
    refine ⟨ar, fr, t, f, m, rfl, hA14, by omega, fun e he => ?_, fun H15 S15' => ?_⟩
    · have h1 := (hm.key e he).2.length_le
      have h2 := (full_find ok v (hm.key e he).1).2.2
      omega
    have S915 := S914.trans S15'
    have hA15 := hA14.up S15'
    have hps15 := hps.mono fun _ _ q => q.up S15'
    have hpa15 := S15' _ _ hpa
    have hT15 := hA15.t
    have hpl' := hps.length
    walk_at "go"
    refine ⟨⟨_, SqL.of hpa15⟩, ?_⟩
    have npa : pa ≠ t := fun q => by rw [q, hT15] at hpa15; cases hpa15
    refine g_forV (fun i σ H' => SameB t H15 H' ∧ ∃ (m' : Mp) (e16 e17 : Option V), H' t = some (.dT (encM m')) ∧ MInv f v m' ∧ (∀ p ∈ pcs.drop i, getM m' p.1 = getM m p.1) ∧ cntM m' = cntM m + ((pcs.map fun p => p.2.2.length).take i).sum ∧ misM f v m' + ((pcs.map fun p => p.2.2.length).take i).sum ≤ misM f v m ∧ m'.length ≤ 225 + i ∧ i ≤ 225 ∧
      σ = [some (.ref sc), some (.ref sz), some (.ref fr), some (.ref vl), some (.ref pi), some (.ref ky), some (.ref ar), some (.ref rg), some (.ref ak), some (.int (misM f v m : Nat)), some (.int (misM f v m : Nat)), none, some (.int cnt), some (.ref pa), some (.int (((pcs.map fun p => p.2.2.length).take i).sum : Nat)), some (.int (cntM m : Nat)), e16, e17, none, none])
      (itv_l pa ps) (fun i σ H' h => SqL.of (h.1 _ _ npa hpa15)) ⟨.refl, m, none, none, hT15, hm, fun _ _ => rfl, rfl, Nat.le_refl _, by omega, by omega, rfl⟩ (fun i σ H' hi h => ?_) (fun σ H' h => ?_)
    · obtain ⟨SB, m', e16, e17, hT', hm', hget, hcntm, hmis, hml', hi225, e⟩ := h
      subst e
      rw [hpl'] at hi
      have hA' := hA15.put SB hT'
      have hAo := hA'.o
      have hpv := (pair_at (d := V.non) hps15 hi).put hT15 SB
      obtain ⟨hok, hp2, ho, hp1, hpre⟩ := hPc.p _ (List.getElem_mem hi)
      have hg := hget pcs[i] (by rw [List.drop_eq_getElem_cons hi]; exact List.mem_cons_self)
      have hnd := hPc.nd
      have hlater : ∀ p ∈ pcs.drop (i + 1), p.1 ≠ pcs[i].1 := by
        intro p hp q
        obtain ⟨j, hj, ej⟩ := List.getElem_of_mem hp
        rw [List.length_drop] at hj
        rw [List.getElem_drop] at ej
        have nd := List.nodup_iff_pairwise_ne.mp hnd
        rw [List.pairwise_iff_getElem] at nd
        refine nd i (i + 1 + j) (by rw [List.length_map]; omega) (by rw [List.length_map]; omega) (by omega) ?_
        rw [List.getElem_map, List.getElem_map, ej]
        exact q.symm
      have hget2 : ∀ p ∈ pcs.drop (i + 1), getM m' p.1 = getM m p.1 := fun p hp => hget p (by rw [List.drop_eq_getElem_cons hi]; exact List.mem_cons_of_mem _ hp)
      have htk : ((pcs.map fun p => p.2.2.length).take (i + 1)).sum = ((pcs.map fun p => p.2.2.length).take i).sum + pcs[i].2.2.length := by
        rw [sum_take (by rw [List.length_map]; exact hi), List.getElem_map]
      generalize hpp : pcs[i] = pc at hpv hok hp2 ho hp1 hpre hg hlater htk
      generalize ps.getD i .non = pv at hpv
      obtain ⟨r, kr, er, hr, hkr⟩ := hpv
      subst er
      rw [← hg] at hpre
      have ho' : opn f m' pc.1 = true := by rw [opn_of hg]; exact ho
      obtain ⟨hdc, j, hj, hfd⟩ := prefix_find ok v hok hpre
      have hne : pc.2.2 ≠ [] := fun q => by rw [q] at hp1; simp at hp1
      have h20 := (full_find ok v hok).2.2
      have hpl2 := hpre.length_le
      rw [List.length_append] at hpl2
      walk_at "go"
      refine g_ixT 0 (SqT.of hr) rfl rfl ?_
      walk_at "go"
      refine g_ixT 1 (SqT.of hr) rfl rfl ?_
      walk_at "go"
      refine g_ixT 2 (SqT.of hr) rfl rfl ?_
      walk_at "go"
      refine ⟨ar, fr, t, f, m', pc.1, kr, pc.2.2, (bitsM f v pc.1).take j, by rw [hg, ← hp2]; rfl, hA', ok, hkr, hok, by omega, hdc, hfd, fun H2 SB2 hT2 => ?_⟩
      rw [if_neg hne] at hT2
      have nr : r ≠ t := fun q => by rw [q, hT'] at hr; cases hr
      have hr2 := SB2 _ _ nr hr
      walk_at "go"
      refine ⟨_, rfl, ?_⟩
      walk_at "go"
      refine g_ixT 2 (SqT.of hr2) rfl rfl ?_
      walk_at "go"
      have hcp := cnt_put (l := getM m' pc.1 ++ pc.2.2) (k := pc.1) hm'.nd
      have hmp := mis_put (f := f) (v := v) hok ho' hpre
      rw [List.length_append] at hcp
      refine ⟨SB.trans SB2, putM m' pc.1 (getM m' pc.1 ++ pc.2.2), some (.ref r), some (.int (pc.2.2.length : Nat)), hT2, minv_put hm' hok hpre, fun p hp => ?_, by rw [htk]; omega, by rw [htk]; omega, ?_, by omega, ?_⟩
      · rw [getM_put, if_neg (hlater p hp)]
        exact hget2 p hp
      · have := putM_len m' pc.1 (getM m' pc.1 ++ pc.2.2)
        omega
      · rw [htk]
        rfl
    · obtain ⟨SB, m', e16, e17, hT', hm', hget, hcntm, hmis, hml', hi225, e⟩ := h
      subst e
      have htk : (pcs.map fun p => p.2.2.length).take ps.length = pcs.map fun p => p.2.2.length := List.take_of_length_le (by rw [List.length_map, hpl']; exact Nat.le_refl _)
      rw [htk, htot] at hcntm hmis
      rw [htk, htot]
      have hA' := hA15.put SB hT'
      have hAo := hA'.o
      walk_at "go"
      refine ⟨_, _, rfl, ?_⟩
      have emin : (if ((misM f v m : Nat) : Int) < (cnt : Int) then ((misM f v m : Nat) : Int) else (cnt : Int)) = ((min cnt (misM f v m) : Nat) : Int) := by split <;> omega
      rw [emin]
      walk_at "go"
      refine ⟨ar, fr, t, f, m', rfl, hA', by omega, fun e he => ?_, fun H16 S16 => ?_⟩
      · have h1 := (hm'.key e he).2.length_le
        have h2 := (full_find ok v (hm'.key e he).1).2.2
        omega
      have ecn : ((cntM m' : Nat) : Int) = ((cntM m : Nat) : Int) + ((min cnt (misM f v m) : Nat) : Int) := by omega
      rw [ecn]
      walk_at "go"
      have hF15 := hF9.up S915
      have hP15 := hP9.up S915
      have hky15 := S915 _ _ hky9
      have hks15 := hks9.up S915
      have hvl15 := hvl9.up S915
      have hrg15 := hrg9.up S915
      have hF16 := (hF15.put hT15 SB).up S16
      have hP16 := (hP15.put hT15 SB).up S16
      have hks16 := (hks15.put hT15 SB).up S16
      have hvl16 := (hvl15.put hT15 SB).up S16
      have hrg16 := (hrg15.put hT15 SB).up S16
      have hky16 := S16 _ _ (SB _ _ (fun q => by rw [q, hT15] at hky15; cases hky15) hky15)
      have hA16 := hA'.up S16
      refine ⟨⟨_, SqL.of hky16⟩, ?_⟩
      refine g_forV (fun i σ H' => Same H16 H' ∧ ∃ (e18 : Option V), σ = [some (.ref sc), some (.ref sz), some (.ref fr), some (.ref vl), some (.ref pi), some (.ref ky), some (.ref ar), some (.ref rg), some (.ref ak), some (.int (misM f v m : Nat)), some (.int (misM f v m : Nat)), none, some (.int cnt), some (.ref pa), some (.int (min cnt (misM f v m) : Nat)), some (.int (cntM m : Nat)), e16, e17, e18, none]) (itv_l ky rs) (fun i σ H' h => h.1.seq (SqL.of hky16)) ⟨.refl _, none, rfl⟩ (fun i σ H' hi h => ?_) (fun σ H' h => ?_)
      · obtain ⟨S, e18, e⟩ := h
        subst e
        rw [hks16.length] at hi
        have hk := (pair_at (d := V.non) hks16 hi).up S
        have hok := mem_keysM.mp (List.getElem_mem hi)
        generalize (keysM f)[i] = ky2 at hk hok
        generalize rs.getD i .non = kv at hk
        walk_at "go"
        refine ⟨f, fr, pi, v, ky2, kv, rfl, hF16.up S, hP16.up S, ok, hv, hk, hok, fun H17 S17' => ?_⟩
        have hA17 := (hA16.up S).up S17'
        have hAo := hA17.o
        walk_at "go"
        refine ⟨ar, fr, t, f, m', ky2, kv, rfl, hA17, ok, hk.up S17', hok, ?_⟩
        walk_at "go"
        have hpre : (getM m' ky2).isPrefixOf (cdM f v ky2) = true := List.isPrefixOf_iff_prefix.mpr (hm'.ok ky2 hok)
        rw [hpre]
        walk_at "go"
        exact ⟨S.trans S17', _, rfl⟩
      · obtain ⟨S, e18, e⟩ := h
        subst e
        have hA17 := hA16.up S
        walk_at "go"
        refine ⟨ar, pi, fr, t, f, v, m', rfl, hA17, hP16.up S, ok, hv, hm'.ok, fun H18 S18 => ?_⟩
        have hA18 := hA17.up S18
        walk_at "go"
        refine ⟨_, rfl, ?_⟩
        walk_at "go"
        refine ⟨_, _, rfl, ?_⟩
        walk_at "go"
        refine g_ite (fun hgt => ?_) (fun hgt => ?_)
        · exact k _
        have hgt := of_decide_eq_false hgt
        have hz : misM f v m' = 0 := by omega
        have hak' := all_known ok hm'.ok hz
        walk_at "go"
        refine ⟨ar, fr, t, f, v, m', rfl, hA18, ok, hv, hm'.ok, hak', fun P H19 S19' hPv => ?_⟩
        obtain ⟨rP, hO, hRP⟩ := id hPv
        walk_at "go"
        refine ⟨f, P, v, rfl, hPv, ok, hv, fun D2 H20 S20 hD2 => ?_⟩
        have S1620 := ((S.trans S18).trans S19').trans S20
        walk_at "go"
        refine ⟨rowsD v, rowsD v, dp_rows hD2, dp_rows (hvl16.up S1620), rows_sh v, rows_sh v, ?_⟩
        rw [eqv_rowsD]
        walk_at "go"
        refine ⟨ar, fr, t, rg, f, v, m', gs, rfl, hA16.up S1620, ok, hm'.ok, hrg16.up S1620, fun D3 H21 rs3 pl3 S21 hpl3 hD3 hens3 => ?_⟩
        have hn3 := (req_nil (v := v) ok hm'.ok hpl3).mpr hz
        rw [hn3] at hens3
        walk_at "go"
        refine ⟨sz0, fun p2 hp2 => ?_⟩
        refine ⟨.list (([] : List En).map enD), .list [], dp_ens (upd_get hp2 hD3) (hens3.mono fun _ _ q => q.up (same_new hp2)), dp_nil upd_same, ens_sh [], nil_sh, ?_⟩
        rw [eqv_nil]
        exact k _
end

end PP
namespace PP
open PySem PySem.Spec PyProof.Rows L2
theorem facts {P : Program} {w : World} {K : PySem.W.Frag} {h : Heap} {mg : Str → Option Value} {f : Addr} (X : K.In h) (G : h.Ns mainGlobals mg) (hfa : mg ("law" : Str) = some (.ref f)) (c : obs1 "_wall" spec fre K = val1 spec) :
    ∃ fd : FuncData, (∀ (s : Shared) (v : Value), BindsTo s fd ⟨[v], []⟩ [("_law_script", v)]) ∧ ∀ base : Heap, K.In base → base.Ns mainGlobals mg → FnOk P w K mg base CX0 14 f fd ["_law_script"] (sp_law K) := by
  obtain ⟨CF, CA, CP, T⟩ := tx_of X G c
  obtain ⟨f0, fd0, hm0, F0⟩ := T.fns 86 "law" d_law rfl
  have e := hfa.symm.trans hm0
  cases e
  have b := FunD.bindsA (ps := ["_law_script"]) F0 fun _ _ _ _ _ _ us hl => match us, hl with | [_], _ => rfl
  exact ⟨fd0, fun s v => b s [v] rfl, fun base _ _ => ok_law T F0⟩
end PP
open PySem PySem.W PySem.Calls PyProof.Rows PP
theorem PySem.Challenge.cw_packetpicture_k62_whole_answers_make_pro_holds : PySem.Challenge.rw_packetpicture_k62_whole_answers_make_pro.Holds := by
  w_on; o_law
  refine HandSHeadRun.head_any (r := OpenLaw.row PySem.Challenge.rw_packetpicture_k62_whole_answers_make_pro) (q := view (OpenLaw.row PySem.Challenge.rw_packetpicture_k62_whole_answers_make_pro).prog [98]) (H := PP.hk) (ob := PP.ob) (M := 6000) (loose := PP.names) (d := HandSHeadRun.topDef (OpenLaw.row PySem.Challenge.rw_packetpicture_k62_whole_answers_make_pro).prog 98) (kwd := []) PP.ob_eq
    (by kernel_rfl) (fun s => by kernel_rfl) PP.run (by kernel_rfl) (by kernel_rfl) (by kernel_rfl) (by rfl) (by first | assumption | decide +kernel) (by decide +kernel) ⟨rfl, rfl, rfl, rfl, rfl, by decide +kernel⟩ ?hw ?hc
  case hw => w_witness2
  case hc =>
    refine L2.walk_ofE (l := PySem.Challenge.rw_packetpicture_k62_whole_answers_make_pro) (n := 63) (k := 14) (x := "_law_script") (CX := L2.CX0) rfl (by decide) (by kernel_rfl) ⟨rfl, by decide, by decide⟩ ?F (fun _ _ _ _ z => z)
    intro w mg fa h Y G hmg0
    obtain ⟨K, KX, c⟩ := Y
    have hmg : mg ("law" : PySem.Str) = some (.ref fa) := by
      have e : (HandSHeadRun.topDef (OpenLaw.row PySem.Challenge.rw_packetpicture_k62_whole_answers_make_pro).prog 98).name = ("law" : PySem.Str) := by kernel_rfl
      rw [← e]
      exact hmg0
    obtain ⟨fd, hb, hF⟩ := PP.facts (P := (PySem.Challenge.rw_packetpicture_k62_whole_answers_make_pro).prog) (w := w) KX G hmg c
    exact ⟨K, fd, PP.sp_law K, KX, hb, fun H a ns hl _ hS => ⟨a, ns, rfl, hS, fun _ => rfl⟩, hF⟩
