import PyProof.Rows.All
import PySem.Challenge.RW_beamrows_k65_whole_ways_between
import Wide.All
import OpenK.AllK
import Wide.FinOn
import KE.KStateDown
import HandS.ForMost
import HandS.Exc
import HandS.Defaults
import HandS.Head0
import HandS.Head1
import HandS.Head2
import HandS.HeadEnd
import HandS.HeadHook1
import HandS.HeadHook2
import HandS.RevTup
import HandS.Rev
import HandS.TupMul
import HandS.TupAny
import KE.KIndexOf
import KE.GoesEnum
import KE.GoesMore
import PyProof.StrOps2
import PyProof.WalkInts
import HandS.SortInts
import HandS.TupSets
import HandS.TupLe
import HandS.IsInst
import HandS.Conv
import HandS.Zip
import HandS.Zip0
import HandS.Walk
import HandS.Evl
import HandS.WordsList
import HandS.WordsDict
section
set_option Elab.async false
set_option linter.all false
set_option maxRecDepth 100000
/-! the text by its places; what the top leaves, told by names -/
namespace B65
open PySem PySem.Spec PyProof.Rows L2
def topS (i : Nat) : Stmt := PySem.Challenge.pw_beamrows_k65_whole_ways_between.main.body.getD i (.Pass ⟨0, 0, 0, 0⟩)
def dT (x : Str) (i : Nat) : He.DefD := ⟨(x, none), x, x, defArgs (topS i), defBody (topS i), defScope (topS i), [], []⟩
def dM (x q : Str) (j : Nat) : He.DefD := ⟨("Seeker", some x), x, q, defArgs (inClass (topS 56) j), defBody (inClass (topS 56) j), defScope (inClass (topS 56) j), [], []⟩
def fa0 : List He.Fa := [.glo "PLAIN_DEEDS", .glo "THREE_BEATS", .glo "FOUR_BEATS", .glo "byte_count", .glo "beat_count", .glo "is_table", .glo "row_of", .int "ROOM" 256, .int "PAGE" 32, .glo "IF_DEEDS", .glo "long_of", .glo "want_room", .glo "addresses", .glo "is_crossed", .glo "page_sign", .glo "page_signs", .int "MOST_BYTE_cells" 255, .glo "SAME_FLAG", .glo "more_parts", .glo "less_parts", .glo "x_behind", .glo "x_where", .glo "x_gone", .glo "if_comes", .glo "comes_of", .glo "is_between", .int "MOST_WAY" 200, .int "MOST_BYTE_spans" 255, .int "LEAST" 0, .int "MOST" 1]
def fa1 : List He.Fa := [.glo "is_wait", .glo "steps_of", .glo "all_steps", .glo "are_steps", .glo "is_way", .glo "way_beats", .glo "is_int", .glo "are_prices", .glo "is_closed", .glo "price_keeps", .glo "row_keeps", .glo "is_priced", .glo "are_ends", .glo "right_low", .glo "is_round", .glo "right_high", .glo "Seeker", .glo "shortened", .glo "way_back", .glo "low_paper", .glo "round_paper", .glo "high_paper", .glo "span", .glo "_law_mixed", .glo "_law_deck", .glo "_law_next", .glo "_law_deeds", .glo "_law_most", .glo "_law_long", .glo "_law_beats"]
def fa2 : List He.Fa := [.glo "_law_name", .glo "_law_value", .glo "_law_free", .glo "_law_straight", .glo "_law_block", .glo "_law_running", .glo "_law_places", .glo "_law_whole_long", .glo "_law_end", .glo "_law_base", .glo "_law_steps", .glo "_law_behind", .glo "_law_met", .glo "_law_way", .glo "_law_pair", .glo "_law_flow", .glo "_law_sum", .glo "_law_is_way", .glo "_law_priced", .glo "_law_kept", .glo "_law_drawn_way", .glo "_law_paper", .glo "_law_rounds", .glo "_law_high", .glo "_law_right", .glo "_law_long_flow", .glo "law", .free "len", .free "list", .free "range"]
def fa3 : List He.Fa := [.free "sorted", .free "min", .free "max", .free "int", .free "isinstance", .free "tuple", .free "reversed", .free "zip", .free "enumerate", .free "sum", .free "bool", .free "str", .cls "Seeker", .noat "Seeker" "one", .noat "Seeker" "other", .noat "Seeker" "steps", .noat "Seeker" "waits", .noat "Seeker" "met", .noat "Seeker" "kept", .meth "Seeker" "behind", .meth "Seeker" "met_from", .meth "Seeker" "way", .meth "Seeker" "least", .meth "Seeker" "most", .meth "Seeker" "in_order", .meth "Seeker" "round_of", .meth "Seeker" "turning", .mkr "Seeker"]
def fa : List He.Fa := fa0 ++ (fa1 ++ (fa2 ++ (fa3)))
def fn0 : List He.DefD := [dT "byte_count" 8, dT "beat_count" 9, dT "is_table" 11, dT "row_of" 12, dT "long_of" 17, dT "want_room" 18, dT "addresses" 19, dT "is_crossed" 20, dT "page_sign" 21, dT "page_signs" 22, dT "more_parts" 26, dT "less_parts" 27, dT "x_behind" 28, dT "x_where" 29, dT "x_gone" 30, dT "if_comes" 31, dT "comes_of" 32, dT "is_between" 33, dT "is_wait" 39, dT "steps_of" 40, dT "all_steps" 41, dT "are_steps" 42, dT "is_way" 43, dT "way_beats" 44, dT "is_int" 45, dT "are_prices" 46, dT "is_closed" 47, dT "price_keeps" 48, dT "row_keeps" 49, dT "is_priced" 50]
def fn1 : List He.DefD := [dT "are_ends" 51, dT "right_low" 52, dT "is_round" 53, dT "right_high" 54, dT "shortened" 57, dT "way_back" 58, dT "low_paper" 59, dT "round_paper" 60, dT "high_paper" 61, dT "span" 62, dT "_law_mixed" 64, dT "_law_deck" 65, dT "_law_next" 66, dT "_law_deeds" 67, dT "_law_most" 68, dT "_law_long" 69, dT "_law_beats" 70, dT "_law_name" 71, dT "_law_value" 72, dT "_law_free" 73, dT "_law_straight" 74, dT "_law_block" 75, dT "_law_running" 76, dT "_law_places" 77, dT "_law_whole_long" 78, dT "_law_end" 79, dT "_law_base" 80, dT "_law_steps" 81, dT "_law_behind" 82, dT "_law_met" 83]
def fn2 : List He.DefD := [dT "_law_way" 84, dT "_law_pair" 85, dT "_law_flow" 86, dT "_law_sum" 87, dT "_law_is_way" 88, dT "_law_priced" 89, dT "_law_kept" 90, dT "_law_drawn_way" 91, dT "_law_paper" 92, dT "_law_rounds" 93, dT "_law_high" 94, dT "_law_right" 95, dT "_law_long_flow" 96, dT "law" 97, dM "__init__" "Seeker.__init__" 0, dM "behind" "Seeker.behind" 1, dM "met_from" "Seeker.met_from" 2, dM "way" "Seeker.way" 3, dM "least" "Seeker.least" 4, dM "most" "Seeker.most" 5, dM "in_order" "Seeker.in_order" 6, dM "round_of" "Seeker.round_of" 7, dM "turning" "Seeker.turning" 8]
def fn : List He.DefD := fn0 ++ (fn1 ++ (fn2))
def names0 : List PySem.Str := ["RowsError", "NoRoom", "NoSpan", "PLAIN_DEEDS", "THREE_BEATS", "FOUR_BEATS", "byte_count", "beat_count", "is_table", "row_of", "ROOM", "PAGE", "IF_DEEDS", "long_of", "want_room", "addresses", "is_crossed", "page_sign", "page_signs", "MOST_BYTE_cells", "SAME_FLAG", "more_parts", "less_parts", "x_behind", "x_where", "x_gone", "if_comes", "comes_of", "is_between", "MOST_WAY"]
def names1 : List PySem.Str := ["MOST_BYTE_spans", "LEAST", "MOST", "is_wait", "steps_of", "all_steps", "are_steps", "is_way", "way_beats", "is_int", "are_prices", "is_closed", "price_keeps", "row_keeps", "is_priced", "are_ends", "right_low", "is_round", "right_high", "Seeker", "shortened", "way_back", "low_paper", "round_paper", "high_paper", "span", "_law_mixed", "_law_deck", "_law_next", "_law_deeds"]
def names2 : List PySem.Str := ["_law_most", "_law_long", "_law_beats", "_law_name", "_law_value", "_law_free", "_law_straight", "_law_block", "_law_running", "_law_places", "_law_whole_long", "_law_end", "_law_base", "_law_steps", "_law_behind", "_law_met", "_law_way", "_law_pair", "_law_flow", "_law_sum", "_law_is_way", "_law_priced", "_law_kept", "_law_drawn_way", "_law_paper", "_law_rounds", "_law_high", "_law_right", "_law_long_flow"]
def names : List PySem.Str := names0 ++ (names1 ++ (names2))
def tabPLAIN_DEEDS : List He.Dv := [.str "half", .str "twice", .str "up", .str "down", .str "tox", .str "toa", .str "rest", .str "idle", .str "wait"]
def tabTHREE_BEATS : List He.Dv := [.str "get", .str "put", .str "add", .str "sub", .str "mask", .str "flip", .str "getx", .str "putx", .str "idle", .str "go", .str "door", .str "eye"]
def tabFOUR_BEATS : List He.Dv := [.str "lay", .str "take", .str "at"]
def tabIF_DEEDS : List He.Dv := [.str "ifz", .str "ifn", .str "ifc", .str "ifd"]
def tabSAME_FLAG : List He.Dv := [.str "put", .str "putx", .str "lay", .str "rest", .str "idle", .str "go", .str "ifz", .str "ifn", .str "ifc", .str "ifd", .str "door", .str "wait"]
def exB (K : PySem.W.Frag) : Bool := He.tupB K "PLAIN_DEEDS" tabPLAIN_DEEDS && He.tupB K "THREE_BEATS" tabTHREE_BEATS && He.tupB K "FOUR_BEATS" tabFOUR_BEATS && He.tupB K "IF_DEEDS" tabIF_DEEDS && He.tupB K "SAME_FLAG" tabSAME_FLAG
/-- what an object names, as far as it is asked -/
def refsB (o : Obj) : List Addr := match o.data with
  | .dict es _ => es.toList.flatMap fun e => He.refV e.val
  | .func fd => He.refV fd.code
  | .cls cd => cd.ns :: cd.mro.flatMap He.refV
  | _ => []
def growB (g : Addr → Option Obj) (as : List Addr) : List Addr := as.flatMap fun a => match g a with
  | some o => refsB o
  | none => []
def asB (g : Addr → Option Obj) : List Addr := (fun r1 => (fun r2 => (fun r3 => mainGlobals :: (r1 ++ (r2 ++ (r3 ++ growB g r3)))) (growB g r2)) (growB g r1)) (growB g [mainGlobals])
abbrev AlB : Type := He.AlD × Bool
def obsB (K : PySem.W.Frag) : AlB := (He.obsD fa fn K, exB K)
def valB : AlB := (He.valD fn, true)
def SaysB (K : PySem.W.Frag) : Prop := obsB K = valB
def hookB : PySem.W.Hook where
  α := AlB
  obs := fun s => obsB (He.frG s.heap.get? (asB s.heap.get?))
  val := fun _ => valB
  says := fun _ h => ∃ K : PySem.W.Frag, K.In h ∧ SaysB K
  of := fun _ _ e => ⟨_, He.frG_in, e⟩
  keeps := fun _ _ _ ⟨K, hK, c⟩ k => ⟨K, PySem.W.Frag.In.keeps hK k, c⟩
def obB (s : PySem.W.SharedT) : AlB := obsB (He.frG (HandSHeadRun.getT s) (asB (HandSHeadRun.getT s)))
theorem obB_eq (s : PySem.W.SharedT) : obB s = hookB.obs s.abs := by
  have e : HandSHeadRun.getT s = s.abs.heap.get? := funext (HandSHeadRun.getT_eq s)
  unfold obB
  rw [e] <;> rfl
theorem SaysB.d {K : PySem.W.Frag} (c : SaysB K) : He.SaysD fa fn K := congrArg (fun z : AlB => z.1) c
theorem SaysB.t {K : PySem.W.Frag} (c : SaysB K) : exB K = true := congrArg (fun z : AlB => z.2) c
/-- what the top leaves -/
structure Txt (K : PySem.W.Frag) (mg : Str → Option Value) : Prop where
  c : SaysB K
  h : ∃ h : Heap, K.In h ∧ h.Ns mainGlobals mg
section
variable {K : PySem.W.Frag} {mg : Str → Option Value}
theorem Txt.glo (T : Txt K mg) (i : Nat) {x : Str} (e : fa[i]? = some (.glo x)) : mg x = some (.ref (He.ga K x)) := by
  obtain ⟨h, X, G⟩ := T.h
  exact He.glo_ok X G (T.c.d.fact i e)
theorem Txt.free (T : Txt K mg) (i : Nat) {x : Str} (e : fa[i]? = some (.free x)) : mg x = none := by
  obtain ⟨h, X, G⟩ := T.h
  exact He.free_ok X G (T.c.d.fact i e)
theorem Txt.int (T : Txt K mg) (i : Nat) {x : Str} {n : Int} (e : fa[i]? = some (.int x n)) : ∃ t, mg x = some (.int n t) := by
  obtain ⟨h, X, G⟩ := T.h
  exact He.int_ok X G (T.c.d.fact i e)
/-- a def of the top: it keeps its promise, it is called so -/
def Ok (P : Program) (w : World) (K : PySem.W.Frag) (mg : Str → Option Value) (base : Heap) (k : Nat) (x : Str) (ps : List Str) (sp : Sp) : Prop :=
  ∃ fd, FnOk P w K mg base CX0 k (He.ga K x) fd ps sp ∧ PySem.W.keepIn K (.ref (He.ga K x)) = true ∧ Binds K fd ps []
/-- a method of Seeker -/
def OkM (P : Program) (w : World) (K : PySem.W.Frag) (mg : Str → Option Value) (base : Heap) (k : Nat) (x : Str) (ps : List Str) (sp : Sp) : Prop :=
  ∃ fd, FnOk P w K mg base CX0 k (He.ma K (He.ga K "Seeker") x) fd ps sp ∧ PySem.W.keepIn K (.ref (He.ma K (He.ga K "Seeker") x)) = true ∧ Binds K fd ps []
theorem Txt.g_PLAIN_DEEDS (T : Txt K mg) : mg "PLAIN_DEEDS" = some (.ref (He.ga K "PLAIN_DEEDS")) := T.glo 0 rfl
theorem Txt.g_THREE_BEATS (T : Txt K mg) : mg "THREE_BEATS" = some (.ref (He.ga K "THREE_BEATS")) := T.glo 1 rfl
theorem Txt.g_FOUR_BEATS (T : Txt K mg) : mg "FOUR_BEATS" = some (.ref (He.ga K "FOUR_BEATS")) := T.glo 2 rfl
theorem Txt.g_byte_count (T : Txt K mg) : mg "byte_count" = some (.ref (He.ga K "byte_count")) := T.glo 3 rfl
theorem Txt.g_beat_count (T : Txt K mg) : mg "beat_count" = some (.ref (He.ga K "beat_count")) := T.glo 4 rfl
theorem Txt.g_is_table (T : Txt K mg) : mg "is_table" = some (.ref (He.ga K "is_table")) := T.glo 5 rfl
theorem Txt.g_row_of (T : Txt K mg) : mg "row_of" = some (.ref (He.ga K "row_of")) := T.glo 6 rfl
theorem Txt.n_ROOM (T : Txt K mg) : ∃ t, mg "ROOM" = some (.int 256 t) := T.int 7 rfl
theorem Txt.n_PAGE (T : Txt K mg) : ∃ t, mg "PAGE" = some (.int 32 t) := T.int 8 rfl
theorem Txt.g_IF_DEEDS (T : Txt K mg) : mg "IF_DEEDS" = some (.ref (He.ga K "IF_DEEDS")) := T.glo 9 rfl
theorem Txt.g_long_of (T : Txt K mg) : mg "long_of" = some (.ref (He.ga K "long_of")) := T.glo 10 rfl
theorem Txt.g_want_room (T : Txt K mg) : mg "want_room" = some (.ref (He.ga K "want_room")) := T.glo 11 rfl
theorem Txt.g_addresses (T : Txt K mg) : mg "addresses" = some (.ref (He.ga K "addresses")) := T.glo 12 rfl
theorem Txt.g_is_crossed (T : Txt K mg) : mg "is_crossed" = some (.ref (He.ga K "is_crossed")) := T.glo 13 rfl
theorem Txt.g_page_sign (T : Txt K mg) : mg "page_sign" = some (.ref (He.ga K "page_sign")) := T.glo 14 rfl
theorem Txt.g_page_signs (T : Txt K mg) : mg "page_signs" = some (.ref (He.ga K "page_signs")) := T.glo 15 rfl
theorem Txt.n_MOST_BYTE_cells (T : Txt K mg) : ∃ t, mg "MOST_BYTE_cells" = some (.int 255 t) := T.int 16 rfl
theorem Txt.g_SAME_FLAG (T : Txt K mg) : mg "SAME_FLAG" = some (.ref (He.ga K "SAME_FLAG")) := T.glo 17 rfl
theorem Txt.g_more_parts (T : Txt K mg) : mg "more_parts" = some (.ref (He.ga K "more_parts")) := T.glo 18 rfl
theorem Txt.g_less_parts (T : Txt K mg) : mg "less_parts" = some (.ref (He.ga K "less_parts")) := T.glo 19 rfl
theorem Txt.g_x_behind (T : Txt K mg) : mg "x_behind" = some (.ref (He.ga K "x_behind")) := T.glo 20 rfl
theorem Txt.g_x_where (T : Txt K mg) : mg "x_where" = some (.ref (He.ga K "x_where")) := T.glo 21 rfl
theorem Txt.g_x_gone (T : Txt K mg) : mg "x_gone" = some (.ref (He.ga K "x_gone")) := T.glo 22 rfl
theorem Txt.g_if_comes (T : Txt K mg) : mg "if_comes" = some (.ref (He.ga K "if_comes")) := T.glo 23 rfl
theorem Txt.g_comes_of (T : Txt K mg) : mg "comes_of" = some (.ref (He.ga K "comes_of")) := T.glo 24 rfl
theorem Txt.g_is_between (T : Txt K mg) : mg "is_between" = some (.ref (He.ga K "is_between")) := T.glo 25 rfl
theorem Txt.n_MOST_WAY (T : Txt K mg) : ∃ t, mg "MOST_WAY" = some (.int 200 t) := T.int 26 rfl
theorem Txt.n_MOST_BYTE_spans (T : Txt K mg) : ∃ t, mg "MOST_BYTE_spans" = some (.int 255 t) := T.int 27 rfl
theorem Txt.n_LEAST (T : Txt K mg) : ∃ t, mg "LEAST" = some (.int 0 t) := T.int 28 rfl
theorem Txt.n_MOST (T : Txt K mg) : ∃ t, mg "MOST" = some (.int 1 t) := T.int 29 rfl
theorem Txt.g_is_wait (T : Txt K mg) : mg "is_wait" = some (.ref (He.ga K "is_wait")) := T.glo 30 rfl
theorem Txt.g_steps_of (T : Txt K mg) : mg "steps_of" = some (.ref (He.ga K "steps_of")) := T.glo 31 rfl
theorem Txt.g_all_steps (T : Txt K mg) : mg "all_steps" = some (.ref (He.ga K "all_steps")) := T.glo 32 rfl
theorem Txt.g_are_steps (T : Txt K mg) : mg "are_steps" = some (.ref (He.ga K "are_steps")) := T.glo 33 rfl
theorem Txt.g_is_way (T : Txt K mg) : mg "is_way" = some (.ref (He.ga K "is_way")) := T.glo 34 rfl
theorem Txt.g_way_beats (T : Txt K mg) : mg "way_beats" = some (.ref (He.ga K "way_beats")) := T.glo 35 rfl
theorem Txt.g_is_int (T : Txt K mg) : mg "is_int" = some (.ref (He.ga K "is_int")) := T.glo 36 rfl
theorem Txt.g_are_prices (T : Txt K mg) : mg "are_prices" = some (.ref (He.ga K "are_prices")) := T.glo 37 rfl
theorem Txt.g_is_closed (T : Txt K mg) : mg "is_closed" = some (.ref (He.ga K "is_closed")) := T.glo 38 rfl
theorem Txt.g_price_keeps (T : Txt K mg) : mg "price_keeps" = some (.ref (He.ga K "price_keeps")) := T.glo 39 rfl
theorem Txt.g_row_keeps (T : Txt K mg) : mg "row_keeps" = some (.ref (He.ga K "row_keeps")) := T.glo 40 rfl
theorem Txt.g_is_priced (T : Txt K mg) : mg "is_priced" = some (.ref (He.ga K "is_priced")) := T.glo 41 rfl
theorem Txt.g_are_ends (T : Txt K mg) : mg "are_ends" = some (.ref (He.ga K "are_ends")) := T.glo 42 rfl
theorem Txt.g_right_low (T : Txt K mg) : mg "right_low" = some (.ref (He.ga K "right_low")) := T.glo 43 rfl
theorem Txt.g_is_round (T : Txt K mg) : mg "is_round" = some (.ref (He.ga K "is_round")) := T.glo 44 rfl
theorem Txt.g_right_high (T : Txt K mg) : mg "right_high" = some (.ref (He.ga K "right_high")) := T.glo 45 rfl
theorem Txt.g_Seeker (T : Txt K mg) : mg "Seeker" = some (.ref (He.ga K "Seeker")) := T.glo 46 rfl
theorem Txt.g_shortened (T : Txt K mg) : mg "shortened" = some (.ref (He.ga K "shortened")) := T.glo 47 rfl
theorem Txt.g_way_back (T : Txt K mg) : mg "way_back" = some (.ref (He.ga K "way_back")) := T.glo 48 rfl
theorem Txt.g_low_paper (T : Txt K mg) : mg "low_paper" = some (.ref (He.ga K "low_paper")) := T.glo 49 rfl
theorem Txt.g_round_paper (T : Txt K mg) : mg "round_paper" = some (.ref (He.ga K "round_paper")) := T.glo 50 rfl
theorem Txt.g_high_paper (T : Txt K mg) : mg "high_paper" = some (.ref (He.ga K "high_paper")) := T.glo 51 rfl
theorem Txt.g_span (T : Txt K mg) : mg "span" = some (.ref (He.ga K "span")) := T.glo 52 rfl
theorem Txt.g__law_mixed (T : Txt K mg) : mg "_law_mixed" = some (.ref (He.ga K "_law_mixed")) := T.glo 53 rfl
theorem Txt.g__law_deck (T : Txt K mg) : mg "_law_deck" = some (.ref (He.ga K "_law_deck")) := T.glo 54 rfl
theorem Txt.g__law_next (T : Txt K mg) : mg "_law_next" = some (.ref (He.ga K "_law_next")) := T.glo 55 rfl
theorem Txt.g__law_deeds (T : Txt K mg) : mg "_law_deeds" = some (.ref (He.ga K "_law_deeds")) := T.glo 56 rfl
theorem Txt.g__law_most (T : Txt K mg) : mg "_law_most" = some (.ref (He.ga K "_law_most")) := T.glo 57 rfl
theorem Txt.g__law_long (T : Txt K mg) : mg "_law_long" = some (.ref (He.ga K "_law_long")) := T.glo 58 rfl
theorem Txt.g__law_beats (T : Txt K mg) : mg "_law_beats" = some (.ref (He.ga K "_law_beats")) := T.glo 59 rfl
theorem Txt.g__law_name (T : Txt K mg) : mg "_law_name" = some (.ref (He.ga K "_law_name")) := T.glo 60 rfl
theorem Txt.g__law_value (T : Txt K mg) : mg "_law_value" = some (.ref (He.ga K "_law_value")) := T.glo 61 rfl
theorem Txt.g__law_free (T : Txt K mg) : mg "_law_free" = some (.ref (He.ga K "_law_free")) := T.glo 62 rfl
theorem Txt.g__law_straight (T : Txt K mg) : mg "_law_straight" = some (.ref (He.ga K "_law_straight")) := T.glo 63 rfl
theorem Txt.g__law_block (T : Txt K mg) : mg "_law_block" = some (.ref (He.ga K "_law_block")) := T.glo 64 rfl
theorem Txt.g__law_running (T : Txt K mg) : mg "_law_running" = some (.ref (He.ga K "_law_running")) := T.glo 65 rfl
theorem Txt.g__law_places (T : Txt K mg) : mg "_law_places" = some (.ref (He.ga K "_law_places")) := T.glo 66 rfl
theorem Txt.g__law_whole_long (T : Txt K mg) : mg "_law_whole_long" = some (.ref (He.ga K "_law_whole_long")) := T.glo 67 rfl
theorem Txt.g__law_end (T : Txt K mg) : mg "_law_end" = some (.ref (He.ga K "_law_end")) := T.glo 68 rfl
theorem Txt.g__law_base (T : Txt K mg) : mg "_law_base" = some (.ref (He.ga K "_law_base")) := T.glo 69 rfl
theorem Txt.g__law_steps (T : Txt K mg) : mg "_law_steps" = some (.ref (He.ga K "_law_steps")) := T.glo 70 rfl
theorem Txt.g__law_behind (T : Txt K mg) : mg "_law_behind" = some (.ref (He.ga K "_law_behind")) := T.glo 71 rfl
theorem Txt.g__law_met (T : Txt K mg) : mg "_law_met" = some (.ref (He.ga K "_law_met")) := T.glo 72 rfl
theorem Txt.g__law_way (T : Txt K mg) : mg "_law_way" = some (.ref (He.ga K "_law_way")) := T.glo 73 rfl
theorem Txt.g__law_pair (T : Txt K mg) : mg "_law_pair" = some (.ref (He.ga K "_law_pair")) := T.glo 74 rfl
theorem Txt.g__law_flow (T : Txt K mg) : mg "_law_flow" = some (.ref (He.ga K "_law_flow")) := T.glo 75 rfl
theorem Txt.g__law_sum (T : Txt K mg) : mg "_law_sum" = some (.ref (He.ga K "_law_sum")) := T.glo 76 rfl
theorem Txt.g__law_is_way (T : Txt K mg) : mg "_law_is_way" = some (.ref (He.ga K "_law_is_way")) := T.glo 77 rfl
theorem Txt.g__law_priced (T : Txt K mg) : mg "_law_priced" = some (.ref (He.ga K "_law_priced")) := T.glo 78 rfl
theorem Txt.g__law_kept (T : Txt K mg) : mg "_law_kept" = some (.ref (He.ga K "_law_kept")) := T.glo 79 rfl
theorem Txt.g__law_drawn_way (T : Txt K mg) : mg "_law_drawn_way" = some (.ref (He.ga K "_law_drawn_way")) := T.glo 80 rfl
theorem Txt.g__law_paper (T : Txt K mg) : mg "_law_paper" = some (.ref (He.ga K "_law_paper")) := T.glo 81 rfl
theorem Txt.g__law_rounds (T : Txt K mg) : mg "_law_rounds" = some (.ref (He.ga K "_law_rounds")) := T.glo 82 rfl
theorem Txt.g__law_high (T : Txt K mg) : mg "_law_high" = some (.ref (He.ga K "_law_high")) := T.glo 83 rfl
theorem Txt.g__law_right (T : Txt K mg) : mg "_law_right" = some (.ref (He.ga K "_law_right")) := T.glo 84 rfl
theorem Txt.g__law_long_flow (T : Txt K mg) : mg "_law_long_flow" = some (.ref (He.ga K "_law_long_flow")) := T.glo 85 rfl
theorem Txt.g_law (T : Txt K mg) : mg "law" = some (.ref (He.ga K "law")) := T.glo 86 rfl
theorem Txt.z_len (T : Txt K mg) : mg "len" = none := T.free 87 rfl
theorem Txt.z_list (T : Txt K mg) : mg "list" = none := T.free 88 rfl
theorem Txt.z_range (T : Txt K mg) : mg "range" = none := T.free 89 rfl
theorem Txt.z_sorted (T : Txt K mg) : mg "sorted" = none := T.free 90 rfl
theorem Txt.z_min (T : Txt K mg) : mg "min" = none := T.free 91 rfl
theorem Txt.z_max (T : Txt K mg) : mg "max" = none := T.free 92 rfl
theorem Txt.z_int (T : Txt K mg) : mg "int" = none := T.free 93 rfl
theorem Txt.z_isinstance (T : Txt K mg) : mg "isinstance" = none := T.free 94 rfl
theorem Txt.z_tuple (T : Txt K mg) : mg "tuple" = none := T.free 95 rfl
theorem Txt.z_reversed (T : Txt K mg) : mg "reversed" = none := T.free 96 rfl
theorem Txt.z_zip (T : Txt K mg) : mg "zip" = none := T.free 97 rfl
theorem Txt.z_enumerate (T : Txt K mg) : mg "enumerate" = none := T.free 98 rfl
theorem Txt.z_sum (T : Txt K mg) : mg "sum" = none := T.free 99 rfl
theorem Txt.z_bool (T : Txt K mg) : mg "bool" = none := T.free 100 rfl
theorem Txt.z_str (T : Txt K mg) : mg "str" = none := T.free 101 rfl
theorem Txt.cl (T : Txt K mg) : Cls K (He.ga K "Seeker") := He.cls_ok (T.c.d.fact 102 (f := .cls "Seeker") rfl)
theorem Txt.a_one (T : Txt K mg) : NoAttr K (He.ga K "Seeker") "one" := He.noat_ok (T.c.d.fact 103 (f := .noat "Seeker" "one") rfl)
theorem Txt.a_other (T : Txt K mg) : NoAttr K (He.ga K "Seeker") "other" := He.noat_ok (T.c.d.fact 104 (f := .noat "Seeker" "other") rfl)
theorem Txt.a_steps (T : Txt K mg) : NoAttr K (He.ga K "Seeker") "steps" := He.noat_ok (T.c.d.fact 105 (f := .noat "Seeker" "steps") rfl)
theorem Txt.a_waits (T : Txt K mg) : NoAttr K (He.ga K "Seeker") "waits" := He.noat_ok (T.c.d.fact 106 (f := .noat "Seeker" "waits") rfl)
theorem Txt.a_met (T : Txt K mg) : NoAttr K (He.ga K "Seeker") "met" := He.noat_ok (T.c.d.fact 107 (f := .noat "Seeker" "met") rfl)
theorem Txt.a_kept (T : Txt K mg) : NoAttr K (He.ga K "Seeker") "kept" := He.noat_ok (T.c.d.fact 108 (f := .noat "Seeker" "kept") rfl)
theorem Txt.m_behind (T : Txt K mg) : Meth K (He.ga K "Seeker") "behind" (He.ma K (He.ga K "Seeker") "behind") := He.meth_ok (T.c.d.fact 109 (f := .meth "Seeker" "behind") rfl)
theorem Txt.m_met_from (T : Txt K mg) : Meth K (He.ga K "Seeker") "met_from" (He.ma K (He.ga K "Seeker") "met_from") := He.meth_ok (T.c.d.fact 110 (f := .meth "Seeker" "met_from") rfl)
theorem Txt.m_way (T : Txt K mg) : Meth K (He.ga K "Seeker") "way" (He.ma K (He.ga K "Seeker") "way") := He.meth_ok (T.c.d.fact 111 (f := .meth "Seeker" "way") rfl)
theorem Txt.m_least (T : Txt K mg) : Meth K (He.ga K "Seeker") "least" (He.ma K (He.ga K "Seeker") "least") := He.meth_ok (T.c.d.fact 112 (f := .meth "Seeker" "least") rfl)
theorem Txt.m_most (T : Txt K mg) : Meth K (He.ga K "Seeker") "most" (He.ma K (He.ga K "Seeker") "most") := He.meth_ok (T.c.d.fact 113 (f := .meth "Seeker" "most") rfl)
theorem Txt.m_in_order (T : Txt K mg) : Meth K (He.ga K "Seeker") "in_order" (He.ma K (He.ga K "Seeker") "in_order") := He.meth_ok (T.c.d.fact 114 (f := .meth "Seeker" "in_order") rfl)
theorem Txt.m_round_of (T : Txt K mg) : Meth K (He.ga K "Seeker") "round_of" (He.ma K (He.ga K "Seeker") "round_of") := He.meth_ok (T.c.d.fact 115 (f := .meth "Seeker" "round_of") rfl)
theorem Txt.m_turning (T : Txt K mg) : Meth K (He.ga K "Seeker") "turning" (He.ma K (He.ga K "Seeker") "turning") := He.meth_ok (T.c.d.fact 116 (f := .meth "Seeker" "turning") rfl)
theorem Txt.mkS (T : Txt K mg) : Mk K (He.ga K "Seeker") (He.ma K (He.ga K "Seeker") "__init__") := He.mkr_ok (T.c.d.fact 117 (f := .mkr "Seeker") rfl)
theorem Txt.t_PLAIN_DEEDS (T : Txt K mg) (H : Hp) : SqT K H (He.ga K "PLAIN_DEEDS") (tabPLAIN_DEEDS.map (He.Dv.v K)) := He.tupB_ok (vs := tabPLAIN_DEEDS) (He.ba (He.ba (He.ba (He.ba T.c.t).1).1).1).1 H
theorem Txt.t_THREE_BEATS (T : Txt K mg) (H : Hp) : SqT K H (He.ga K "THREE_BEATS") (tabTHREE_BEATS.map (He.Dv.v K)) := He.tupB_ok (vs := tabTHREE_BEATS) (He.ba (He.ba (He.ba (He.ba T.c.t).1).1).1).2 H
theorem Txt.t_FOUR_BEATS (T : Txt K mg) (H : Hp) : SqT K H (He.ga K "FOUR_BEATS") (tabFOUR_BEATS.map (He.Dv.v K)) := He.tupB_ok (vs := tabFOUR_BEATS) (He.ba (He.ba (He.ba T.c.t).1).1).2 H
theorem Txt.t_IF_DEEDS (T : Txt K mg) (H : Hp) : SqT K H (He.ga K "IF_DEEDS") (tabIF_DEEDS.map (He.Dv.v K)) := He.tupB_ok (vs := tabIF_DEEDS) (He.ba (He.ba T.c.t).1).2 H
theorem Txt.t_SAME_FLAG (T : Txt K mg) (H : Hp) : SqT K H (He.ga K "SAME_FLAG") (tabSAME_FLAG.map (He.Dv.v K)) := He.tupB_ok (vs := tabSAME_FLAG) (He.ba T.c.t).2 H
theorem Txt.d_byte_count (T : Txt K mg) : ∃ fd, FunD K "byte_count" "byte_count" (defArgs (topS 8)) (defBody (topS 8)) (defScope (topS 8)) [] [] (He.ga K "byte_count") fd := T.c.d.def_ 0 (d := dT "byte_count" 8) rfl
theorem Txt.d_beat_count (T : Txt K mg) : ∃ fd, FunD K "beat_count" "beat_count" (defArgs (topS 9)) (defBody (topS 9)) (defScope (topS 9)) [] [] (He.ga K "beat_count") fd := T.c.d.def_ 1 (d := dT "beat_count" 9) rfl
theorem Txt.d_is_table (T : Txt K mg) : ∃ fd, FunD K "is_table" "is_table" (defArgs (topS 11)) (defBody (topS 11)) (defScope (topS 11)) [] [] (He.ga K "is_table") fd := T.c.d.def_ 2 (d := dT "is_table" 11) rfl
theorem Txt.d_row_of (T : Txt K mg) : ∃ fd, FunD K "row_of" "row_of" (defArgs (topS 12)) (defBody (topS 12)) (defScope (topS 12)) [] [] (He.ga K "row_of") fd := T.c.d.def_ 3 (d := dT "row_of" 12) rfl
theorem Txt.d_long_of (T : Txt K mg) : ∃ fd, FunD K "long_of" "long_of" (defArgs (topS 17)) (defBody (topS 17)) (defScope (topS 17)) [] [] (He.ga K "long_of") fd := T.c.d.def_ 4 (d := dT "long_of" 17) rfl
theorem Txt.d_want_room (T : Txt K mg) : ∃ fd, FunD K "want_room" "want_room" (defArgs (topS 18)) (defBody (topS 18)) (defScope (topS 18)) [] [] (He.ga K "want_room") fd := T.c.d.def_ 5 (d := dT "want_room" 18) rfl
theorem Txt.d_addresses (T : Txt K mg) : ∃ fd, FunD K "addresses" "addresses" (defArgs (topS 19)) (defBody (topS 19)) (defScope (topS 19)) [] [] (He.ga K "addresses") fd := T.c.d.def_ 6 (d := dT "addresses" 19) rfl
theorem Txt.d_is_crossed (T : Txt K mg) : ∃ fd, FunD K "is_crossed" "is_crossed" (defArgs (topS 20)) (defBody (topS 20)) (defScope (topS 20)) [] [] (He.ga K "is_crossed") fd := T.c.d.def_ 7 (d := dT "is_crossed" 20) rfl
theorem Txt.d_page_sign (T : Txt K mg) : ∃ fd, FunD K "page_sign" "page_sign" (defArgs (topS 21)) (defBody (topS 21)) (defScope (topS 21)) [] [] (He.ga K "page_sign") fd := T.c.d.def_ 8 (d := dT "page_sign" 21) rfl
theorem Txt.d_page_signs (T : Txt K mg) : ∃ fd, FunD K "page_signs" "page_signs" (defArgs (topS 22)) (defBody (topS 22)) (defScope (topS 22)) [] [] (He.ga K "page_signs") fd := T.c.d.def_ 9 (d := dT "page_signs" 22) rfl
theorem Txt.d_more_parts (T : Txt K mg) : ∃ fd, FunD K "more_parts" "more_parts" (defArgs (topS 26)) (defBody (topS 26)) (defScope (topS 26)) [] [] (He.ga K "more_parts") fd := T.c.d.def_ 10 (d := dT "more_parts" 26) rfl
theorem Txt.d_less_parts (T : Txt K mg) : ∃ fd, FunD K "less_parts" "less_parts" (defArgs (topS 27)) (defBody (topS 27)) (defScope (topS 27)) [] [] (He.ga K "less_parts") fd := T.c.d.def_ 11 (d := dT "less_parts" 27) rfl
theorem Txt.d_x_behind (T : Txt K mg) : ∃ fd, FunD K "x_behind" "x_behind" (defArgs (topS 28)) (defBody (topS 28)) (defScope (topS 28)) [] [] (He.ga K "x_behind") fd := T.c.d.def_ 12 (d := dT "x_behind" 28) rfl
theorem Txt.d_x_where (T : Txt K mg) : ∃ fd, FunD K "x_where" "x_where" (defArgs (topS 29)) (defBody (topS 29)) (defScope (topS 29)) [] [] (He.ga K "x_where") fd := T.c.d.def_ 13 (d := dT "x_where" 29) rfl
theorem Txt.d_x_gone (T : Txt K mg) : ∃ fd, FunD K "x_gone" "x_gone" (defArgs (topS 30)) (defBody (topS 30)) (defScope (topS 30)) [] [] (He.ga K "x_gone") fd := T.c.d.def_ 14 (d := dT "x_gone" 30) rfl
theorem Txt.d_if_comes (T : Txt K mg) : ∃ fd, FunD K "if_comes" "if_comes" (defArgs (topS 31)) (defBody (topS 31)) (defScope (topS 31)) [] [] (He.ga K "if_comes") fd := T.c.d.def_ 15 (d := dT "if_comes" 31) rfl
theorem Txt.d_comes_of (T : Txt K mg) : ∃ fd, FunD K "comes_of" "comes_of" (defArgs (topS 32)) (defBody (topS 32)) (defScope (topS 32)) [] [] (He.ga K "comes_of") fd := T.c.d.def_ 16 (d := dT "comes_of" 32) rfl
theorem Txt.d_is_between (T : Txt K mg) : ∃ fd, FunD K "is_between" "is_between" (defArgs (topS 33)) (defBody (topS 33)) (defScope (topS 33)) [] [] (He.ga K "is_between") fd := T.c.d.def_ 17 (d := dT "is_between" 33) rfl
theorem Txt.d_is_wait (T : Txt K mg) : ∃ fd, FunD K "is_wait" "is_wait" (defArgs (topS 39)) (defBody (topS 39)) (defScope (topS 39)) [] [] (He.ga K "is_wait") fd := T.c.d.def_ 18 (d := dT "is_wait" 39) rfl
theorem Txt.d_steps_of (T : Txt K mg) : ∃ fd, FunD K "steps_of" "steps_of" (defArgs (topS 40)) (defBody (topS 40)) (defScope (topS 40)) [] [] (He.ga K "steps_of") fd := T.c.d.def_ 19 (d := dT "steps_of" 40) rfl
theorem Txt.d_all_steps (T : Txt K mg) : ∃ fd, FunD K "all_steps" "all_steps" (defArgs (topS 41)) (defBody (topS 41)) (defScope (topS 41)) [] [] (He.ga K "all_steps") fd := T.c.d.def_ 20 (d := dT "all_steps" 41) rfl
theorem Txt.d_are_steps (T : Txt K mg) : ∃ fd, FunD K "are_steps" "are_steps" (defArgs (topS 42)) (defBody (topS 42)) (defScope (topS 42)) [] [] (He.ga K "are_steps") fd := T.c.d.def_ 21 (d := dT "are_steps" 42) rfl
theorem Txt.d_is_way (T : Txt K mg) : ∃ fd, FunD K "is_way" "is_way" (defArgs (topS 43)) (defBody (topS 43)) (defScope (topS 43)) [] [] (He.ga K "is_way") fd := T.c.d.def_ 22 (d := dT "is_way" 43) rfl
theorem Txt.d_way_beats (T : Txt K mg) : ∃ fd, FunD K "way_beats" "way_beats" (defArgs (topS 44)) (defBody (topS 44)) (defScope (topS 44)) [] [] (He.ga K "way_beats") fd := T.c.d.def_ 23 (d := dT "way_beats" 44) rfl
theorem Txt.d_is_int (T : Txt K mg) : ∃ fd, FunD K "is_int" "is_int" (defArgs (topS 45)) (defBody (topS 45)) (defScope (topS 45)) [] [] (He.ga K "is_int") fd := T.c.d.def_ 24 (d := dT "is_int" 45) rfl
theorem Txt.d_are_prices (T : Txt K mg) : ∃ fd, FunD K "are_prices" "are_prices" (defArgs (topS 46)) (defBody (topS 46)) (defScope (topS 46)) [] [] (He.ga K "are_prices") fd := T.c.d.def_ 25 (d := dT "are_prices" 46) rfl
theorem Txt.d_is_closed (T : Txt K mg) : ∃ fd, FunD K "is_closed" "is_closed" (defArgs (topS 47)) (defBody (topS 47)) (defScope (topS 47)) [] [] (He.ga K "is_closed") fd := T.c.d.def_ 26 (d := dT "is_closed" 47) rfl
theorem Txt.d_price_keeps (T : Txt K mg) : ∃ fd, FunD K "price_keeps" "price_keeps" (defArgs (topS 48)) (defBody (topS 48)) (defScope (topS 48)) [] [] (He.ga K "price_keeps") fd := T.c.d.def_ 27 (d := dT "price_keeps" 48) rfl
theorem Txt.d_row_keeps (T : Txt K mg) : ∃ fd, FunD K "row_keeps" "row_keeps" (defArgs (topS 49)) (defBody (topS 49)) (defScope (topS 49)) [] [] (He.ga K "row_keeps") fd := T.c.d.def_ 28 (d := dT "row_keeps" 49) rfl
theorem Txt.d_is_priced (T : Txt K mg) : ∃ fd, FunD K "is_priced" "is_priced" (defArgs (topS 50)) (defBody (topS 50)) (defScope (topS 50)) [] [] (He.ga K "is_priced") fd := T.c.d.def_ 29 (d := dT "is_priced" 50) rfl
theorem Txt.d_are_ends (T : Txt K mg) : ∃ fd, FunD K "are_ends" "are_ends" (defArgs (topS 51)) (defBody (topS 51)) (defScope (topS 51)) [] [] (He.ga K "are_ends") fd := T.c.d.def_ 30 (d := dT "are_ends" 51) rfl
theorem Txt.d_right_low (T : Txt K mg) : ∃ fd, FunD K "right_low" "right_low" (defArgs (topS 52)) (defBody (topS 52)) (defScope (topS 52)) [] [] (He.ga K "right_low") fd := T.c.d.def_ 31 (d := dT "right_low" 52) rfl
theorem Txt.d_is_round (T : Txt K mg) : ∃ fd, FunD K "is_round" "is_round" (defArgs (topS 53)) (defBody (topS 53)) (defScope (topS 53)) [] [] (He.ga K "is_round") fd := T.c.d.def_ 32 (d := dT "is_round" 53) rfl
theorem Txt.d_right_high (T : Txt K mg) : ∃ fd, FunD K "right_high" "right_high" (defArgs (topS 54)) (defBody (topS 54)) (defScope (topS 54)) [] [] (He.ga K "right_high") fd := T.c.d.def_ 33 (d := dT "right_high" 54) rfl
theorem Txt.d_shortened (T : Txt K mg) : ∃ fd, FunD K "shortened" "shortened" (defArgs (topS 57)) (defBody (topS 57)) (defScope (topS 57)) [] [] (He.ga K "shortened") fd := T.c.d.def_ 34 (d := dT "shortened" 57) rfl
theorem Txt.d_way_back (T : Txt K mg) : ∃ fd, FunD K "way_back" "way_back" (defArgs (topS 58)) (defBody (topS 58)) (defScope (topS 58)) [] [] (He.ga K "way_back") fd := T.c.d.def_ 35 (d := dT "way_back" 58) rfl
theorem Txt.d_low_paper (T : Txt K mg) : ∃ fd, FunD K "low_paper" "low_paper" (defArgs (topS 59)) (defBody (topS 59)) (defScope (topS 59)) [] [] (He.ga K "low_paper") fd := T.c.d.def_ 36 (d := dT "low_paper" 59) rfl
theorem Txt.d_round_paper (T : Txt K mg) : ∃ fd, FunD K "round_paper" "round_paper" (defArgs (topS 60)) (defBody (topS 60)) (defScope (topS 60)) [] [] (He.ga K "round_paper") fd := T.c.d.def_ 37 (d := dT "round_paper" 60) rfl
theorem Txt.d_high_paper (T : Txt K mg) : ∃ fd, FunD K "high_paper" "high_paper" (defArgs (topS 61)) (defBody (topS 61)) (defScope (topS 61)) [] [] (He.ga K "high_paper") fd := T.c.d.def_ 38 (d := dT "high_paper" 61) rfl
theorem Txt.d_span (T : Txt K mg) : ∃ fd, FunD K "span" "span" (defArgs (topS 62)) (defBody (topS 62)) (defScope (topS 62)) [] [] (He.ga K "span") fd := T.c.d.def_ 39 (d := dT "span" 62) rfl
theorem Txt.d__law_mixed (T : Txt K mg) : ∃ fd, FunD K "_law_mixed" "_law_mixed" (defArgs (topS 64)) (defBody (topS 64)) (defScope (topS 64)) [] [] (He.ga K "_law_mixed") fd := T.c.d.def_ 40 (d := dT "_law_mixed" 64) rfl
theorem Txt.d__law_deck (T : Txt K mg) : ∃ fd, FunD K "_law_deck" "_law_deck" (defArgs (topS 65)) (defBody (topS 65)) (defScope (topS 65)) [] [] (He.ga K "_law_deck") fd := T.c.d.def_ 41 (d := dT "_law_deck" 65) rfl
theorem Txt.d__law_next (T : Txt K mg) : ∃ fd, FunD K "_law_next" "_law_next" (defArgs (topS 66)) (defBody (topS 66)) (defScope (topS 66)) [] [] (He.ga K "_law_next") fd := T.c.d.def_ 42 (d := dT "_law_next" 66) rfl
theorem Txt.d__law_deeds (T : Txt K mg) : ∃ fd, FunD K "_law_deeds" "_law_deeds" (defArgs (topS 67)) (defBody (topS 67)) (defScope (topS 67)) [] [] (He.ga K "_law_deeds") fd := T.c.d.def_ 43 (d := dT "_law_deeds" 67) rfl
theorem Txt.d__law_most (T : Txt K mg) : ∃ fd, FunD K "_law_most" "_law_most" (defArgs (topS 68)) (defBody (topS 68)) (defScope (topS 68)) [] [] (He.ga K "_law_most") fd := T.c.d.def_ 44 (d := dT "_law_most" 68) rfl
theorem Txt.d__law_long (T : Txt K mg) : ∃ fd, FunD K "_law_long" "_law_long" (defArgs (topS 69)) (defBody (topS 69)) (defScope (topS 69)) [] [] (He.ga K "_law_long") fd := T.c.d.def_ 45 (d := dT "_law_long" 69) rfl
theorem Txt.d__law_beats (T : Txt K mg) : ∃ fd, FunD K "_law_beats" "_law_beats" (defArgs (topS 70)) (defBody (topS 70)) (defScope (topS 70)) [] [] (He.ga K "_law_beats") fd := T.c.d.def_ 46 (d := dT "_law_beats" 70) rfl
theorem Txt.d__law_name (T : Txt K mg) : ∃ fd, FunD K "_law_name" "_law_name" (defArgs (topS 71)) (defBody (topS 71)) (defScope (topS 71)) [] [] (He.ga K "_law_name") fd := T.c.d.def_ 47 (d := dT "_law_name" 71) rfl
theorem Txt.d__law_value (T : Txt K mg) : ∃ fd, FunD K "_law_value" "_law_value" (defArgs (topS 72)) (defBody (topS 72)) (defScope (topS 72)) [] [] (He.ga K "_law_value") fd := T.c.d.def_ 48 (d := dT "_law_value" 72) rfl
theorem Txt.d__law_free (T : Txt K mg) : ∃ fd, FunD K "_law_free" "_law_free" (defArgs (topS 73)) (defBody (topS 73)) (defScope (topS 73)) [] [] (He.ga K "_law_free") fd := T.c.d.def_ 49 (d := dT "_law_free" 73) rfl
theorem Txt.d__law_straight (T : Txt K mg) : ∃ fd, FunD K "_law_straight" "_law_straight" (defArgs (topS 74)) (defBody (topS 74)) (defScope (topS 74)) [] [] (He.ga K "_law_straight") fd := T.c.d.def_ 50 (d := dT "_law_straight" 74) rfl
theorem Txt.d__law_block (T : Txt K mg) : ∃ fd, FunD K "_law_block" "_law_block" (defArgs (topS 75)) (defBody (topS 75)) (defScope (topS 75)) [] [] (He.ga K "_law_block") fd := T.c.d.def_ 51 (d := dT "_law_block" 75) rfl
theorem Txt.d__law_running (T : Txt K mg) : ∃ fd, FunD K "_law_running" "_law_running" (defArgs (topS 76)) (defBody (topS 76)) (defScope (topS 76)) [] [] (He.ga K "_law_running") fd := T.c.d.def_ 52 (d := dT "_law_running" 76) rfl
theorem Txt.d__law_places (T : Txt K mg) : ∃ fd, FunD K "_law_places" "_law_places" (defArgs (topS 77)) (defBody (topS 77)) (defScope (topS 77)) [] [] (He.ga K "_law_places") fd := T.c.d.def_ 53 (d := dT "_law_places" 77) rfl
theorem Txt.d__law_whole_long (T : Txt K mg) : ∃ fd, FunD K "_law_whole_long" "_law_whole_long" (defArgs (topS 78)) (defBody (topS 78)) (defScope (topS 78)) [] [] (He.ga K "_law_whole_long") fd := T.c.d.def_ 54 (d := dT "_law_whole_long" 78) rfl
theorem Txt.d__law_end (T : Txt K mg) : ∃ fd, FunD K "_law_end" "_law_end" (defArgs (topS 79)) (defBody (topS 79)) (defScope (topS 79)) [] [] (He.ga K "_law_end") fd := T.c.d.def_ 55 (d := dT "_law_end" 79) rfl
theorem Txt.d__law_base (T : Txt K mg) : ∃ fd, FunD K "_law_base" "_law_base" (defArgs (topS 80)) (defBody (topS 80)) (defScope (topS 80)) [] [] (He.ga K "_law_base") fd := T.c.d.def_ 56 (d := dT "_law_base" 80) rfl
theorem Txt.d__law_steps (T : Txt K mg) : ∃ fd, FunD K "_law_steps" "_law_steps" (defArgs (topS 81)) (defBody (topS 81)) (defScope (topS 81)) [] [] (He.ga K "_law_steps") fd := T.c.d.def_ 57 (d := dT "_law_steps" 81) rfl
theorem Txt.d__law_behind (T : Txt K mg) : ∃ fd, FunD K "_law_behind" "_law_behind" (defArgs (topS 82)) (defBody (topS 82)) (defScope (topS 82)) [] [] (He.ga K "_law_behind") fd := T.c.d.def_ 58 (d := dT "_law_behind" 82) rfl
theorem Txt.d__law_met (T : Txt K mg) : ∃ fd, FunD K "_law_met" "_law_met" (defArgs (topS 83)) (defBody (topS 83)) (defScope (topS 83)) [] [] (He.ga K "_law_met") fd := T.c.d.def_ 59 (d := dT "_law_met" 83) rfl
theorem Txt.d__law_way (T : Txt K mg) : ∃ fd, FunD K "_law_way" "_law_way" (defArgs (topS 84)) (defBody (topS 84)) (defScope (topS 84)) [] [] (He.ga K "_law_way") fd := T.c.d.def_ 60 (d := dT "_law_way" 84) rfl
theorem Txt.d__law_pair (T : Txt K mg) : ∃ fd, FunD K "_law_pair" "_law_pair" (defArgs (topS 85)) (defBody (topS 85)) (defScope (topS 85)) [] [] (He.ga K "_law_pair") fd := T.c.d.def_ 61 (d := dT "_law_pair" 85) rfl
theorem Txt.d__law_flow (T : Txt K mg) : ∃ fd, FunD K "_law_flow" "_law_flow" (defArgs (topS 86)) (defBody (topS 86)) (defScope (topS 86)) [] [] (He.ga K "_law_flow") fd := T.c.d.def_ 62 (d := dT "_law_flow" 86) rfl
theorem Txt.d__law_sum (T : Txt K mg) : ∃ fd, FunD K "_law_sum" "_law_sum" (defArgs (topS 87)) (defBody (topS 87)) (defScope (topS 87)) [] [] (He.ga K "_law_sum") fd := T.c.d.def_ 63 (d := dT "_law_sum" 87) rfl
theorem Txt.d__law_is_way (T : Txt K mg) : ∃ fd, FunD K "_law_is_way" "_law_is_way" (defArgs (topS 88)) (defBody (topS 88)) (defScope (topS 88)) [] [] (He.ga K "_law_is_way") fd := T.c.d.def_ 64 (d := dT "_law_is_way" 88) rfl
theorem Txt.d__law_priced (T : Txt K mg) : ∃ fd, FunD K "_law_priced" "_law_priced" (defArgs (topS 89)) (defBody (topS 89)) (defScope (topS 89)) [] [] (He.ga K "_law_priced") fd := T.c.d.def_ 65 (d := dT "_law_priced" 89) rfl
theorem Txt.d__law_kept (T : Txt K mg) : ∃ fd, FunD K "_law_kept" "_law_kept" (defArgs (topS 90)) (defBody (topS 90)) (defScope (topS 90)) [] [] (He.ga K "_law_kept") fd := T.c.d.def_ 66 (d := dT "_law_kept" 90) rfl
theorem Txt.d__law_drawn_way (T : Txt K mg) : ∃ fd, FunD K "_law_drawn_way" "_law_drawn_way" (defArgs (topS 91)) (defBody (topS 91)) (defScope (topS 91)) [] [] (He.ga K "_law_drawn_way") fd := T.c.d.def_ 67 (d := dT "_law_drawn_way" 91) rfl
theorem Txt.d__law_paper (T : Txt K mg) : ∃ fd, FunD K "_law_paper" "_law_paper" (defArgs (topS 92)) (defBody (topS 92)) (defScope (topS 92)) [] [] (He.ga K "_law_paper") fd := T.c.d.def_ 68 (d := dT "_law_paper" 92) rfl
theorem Txt.d__law_rounds (T : Txt K mg) : ∃ fd, FunD K "_law_rounds" "_law_rounds" (defArgs (topS 93)) (defBody (topS 93)) (defScope (topS 93)) [] [] (He.ga K "_law_rounds") fd := T.c.d.def_ 69 (d := dT "_law_rounds" 93) rfl
theorem Txt.d__law_high (T : Txt K mg) : ∃ fd, FunD K "_law_high" "_law_high" (defArgs (topS 94)) (defBody (topS 94)) (defScope (topS 94)) [] [] (He.ga K "_law_high") fd := T.c.d.def_ 70 (d := dT "_law_high" 94) rfl
theorem Txt.d__law_right (T : Txt K mg) : ∃ fd, FunD K "_law_right" "_law_right" (defArgs (topS 95)) (defBody (topS 95)) (defScope (topS 95)) [] [] (He.ga K "_law_right") fd := T.c.d.def_ 71 (d := dT "_law_right" 95) rfl
theorem Txt.d__law_long_flow (T : Txt K mg) : ∃ fd, FunD K "_law_long_flow" "_law_long_flow" (defArgs (topS 96)) (defBody (topS 96)) (defScope (topS 96)) [] [] (He.ga K "_law_long_flow") fd := T.c.d.def_ 72 (d := dT "_law_long_flow" 96) rfl
theorem Txt.d_law (T : Txt K mg) : ∃ fd, FunD K "law" "law" (defArgs (topS 97)) (defBody (topS 97)) (defScope (topS 97)) [] [] (He.ga K "law") fd := T.c.d.def_ 73 (d := dT "law" 97) rfl
theorem Txt.d_Seeker___init__ (T : Txt K mg) : ∃ fd, FunD K "__init__" "Seeker.__init__" (defArgs (inClass (topS 56) 0)) (defBody (inClass (topS 56) 0)) (defScope (inClass (topS 56) 0)) [] [] (He.ma K (He.ga K "Seeker") "__init__") fd := T.c.d.def_ 74 (d := dM "__init__" "Seeker.__init__" 0) rfl
theorem Txt.d_Seeker_behind (T : Txt K mg) : ∃ fd, FunD K "behind" "Seeker.behind" (defArgs (inClass (topS 56) 1)) (defBody (inClass (topS 56) 1)) (defScope (inClass (topS 56) 1)) [] [] (He.ma K (He.ga K "Seeker") "behind") fd := T.c.d.def_ 75 (d := dM "behind" "Seeker.behind" 1) rfl
theorem Txt.d_Seeker_met_from (T : Txt K mg) : ∃ fd, FunD K "met_from" "Seeker.met_from" (defArgs (inClass (topS 56) 2)) (defBody (inClass (topS 56) 2)) (defScope (inClass (topS 56) 2)) [] [] (He.ma K (He.ga K "Seeker") "met_from") fd := T.c.d.def_ 76 (d := dM "met_from" "Seeker.met_from" 2) rfl
theorem Txt.d_Seeker_way (T : Txt K mg) : ∃ fd, FunD K "way" "Seeker.way" (defArgs (inClass (topS 56) 3)) (defBody (inClass (topS 56) 3)) (defScope (inClass (topS 56) 3)) [] [] (He.ma K (He.ga K "Seeker") "way") fd := T.c.d.def_ 77 (d := dM "way" "Seeker.way" 3) rfl
theorem Txt.d_Seeker_least (T : Txt K mg) : ∃ fd, FunD K "least" "Seeker.least" (defArgs (inClass (topS 56) 4)) (defBody (inClass (topS 56) 4)) (defScope (inClass (topS 56) 4)) [] [] (He.ma K (He.ga K "Seeker") "least") fd := T.c.d.def_ 78 (d := dM "least" "Seeker.least" 4) rfl
theorem Txt.d_Seeker_most (T : Txt K mg) : ∃ fd, FunD K "most" "Seeker.most" (defArgs (inClass (topS 56) 5)) (defBody (inClass (topS 56) 5)) (defScope (inClass (topS 56) 5)) [] [] (He.ma K (He.ga K "Seeker") "most") fd := T.c.d.def_ 79 (d := dM "most" "Seeker.most" 5) rfl
theorem Txt.d_Seeker_in_order (T : Txt K mg) : ∃ fd, FunD K "in_order" "Seeker.in_order" (defArgs (inClass (topS 56) 6)) (defBody (inClass (topS 56) 6)) (defScope (inClass (topS 56) 6)) [] [] (He.ma K (He.ga K "Seeker") "in_order") fd := T.c.d.def_ 80 (d := dM "in_order" "Seeker.in_order" 6) rfl
theorem Txt.d_Seeker_round_of (T : Txt K mg) : ∃ fd, FunD K "round_of" "Seeker.round_of" (defArgs (inClass (topS 56) 7)) (defBody (inClass (topS 56) 7)) (defScope (inClass (topS 56) 7)) [] [] (He.ma K (He.ga K "Seeker") "round_of") fd := T.c.d.def_ 81 (d := dM "round_of" "Seeker.round_of" 7) rfl
theorem Txt.d_Seeker_turning (T : Txt K mg) : ∃ fd, FunD K "turning" "Seeker.turning" (defArgs (inClass (topS 56) 8)) (defBody (inClass (topS 56) 8)) (defScope (inClass (topS 56) 8)) [] [] (He.ma K (He.ga K "Seeker") "turning") fd := T.c.d.def_ 82 (d := dM "turning" "Seeker.turning" 8) rfl
end
end B65

end

section
set_option Elab.async false
set_option linter.all false
set_option maxRecDepth 100000
/-! the head: the top run once in the kernel -/
set_option maxHeartbeats 0
namespace B65
open PySem PySem.W PySem.Calls PyProof.Rows L2
abbrev R : PySem.W.OpenRow := PySem.W.OpenLaw.row PySem.Challenge.rw_beamrows_k65_whole_ways_between
theorem run (w : World) : HandSHeadRun.RunEq R (PySem.W.view R.prog [97]) hookB obB 4000 names w := by
  intro os
  kernel_rfl
end B65

end

section
set_option Elab.async false
set_option linter.all false
set_option maxRecDepth 100000
set_option maxHeartbeats 2000000
/-! own rules of the layer: list(reversed(list)), enumerate over a tuple, tuple by 0 and 1, a text by a number, least and greatest of a tuple, a tuple's index -/
namespace R65
open PySem PySem.Spec PyProof.Rows L2

/-! ### least and greatest of a tuple of ints -/
section
variable {prog : Program} {w : World} {A : Around} {E : Value → Shared → Prop} {s : Shared} {l : Addr} {its : List Value} {ns : List Int} {Q : Value → Shared → Prop}
theorem iterT {items : Array Value} {Q : Value → Shared → Prop} (hl : s.heap.IsTuple l items)
    (h : ∀ s2, s2 = { s with heap := s.heap.push { cls := .type "tuple_iterator", data := .fields #[.ref l, .int 0 0] } } → (s2.heap.IsTupleIter s.heap.objs.size l 0 ∧ s2.heap.IsTuple l items) →
      (∀ b ∈ [s.heap.objs.size, l], b < s2.heap.objs.size) → l ≠ s.heap.objs.size → Q (.ref s.heap.objs.size) s2) : wpAny (model prog w) A (pyIter (.ref l)) Q E s := by
  obtain ⟨o, ho, _⟩ := id hl
  have hlt := Heap.lt_size ho
  refine wpAny_pyIter_tuple hl (h _ rfl ⟨⟨_, Heap.get?_push_size _ rfl, rfl, rfl⟩, hl.push _⟩ (fun b hb => ?_) (Nat.ne_of_lt hlt))
  show b < (s.heap.push _).objs.size
  rw [Heap.size_push]
  simp only [List.mem_cons, List.not_mem_nil, or_false] at hb
  rcases hb with z | z
  · rw [z]; exact Nat.lt_succ_self _
  · rw [z]; exact Nat.lt_succ_of_lt hlt
theorem oldT {h' : Heap} {o : Obj} (hk : ∀ b u, b ∉ [s.heap.objs.size] → (s.heap.push o).get? b = some u → h'.get? b = some u) (b : Addr) (u : Obj) (e : s.heap.get? b = some u) : h'.get? b = some u :=
  hk b u (fun m => Nat.lt_irrefl _ (by have q := Heap.lt_size e; rw [List.mem_singleton.mp m] at q; exact q)) (Heap.get?_push_of_some _ e)
theorem max_tup (hh : A.handled = none) (hl : s.heap.IsTuple l its.toArray) (hi : IntsAre its ns) (hne : 0 < ns.length)
    (h : ∀ h' tk M t', (∀ b o, s.heap.get? b = some o → h'.get? b = some o) → M ∈ ns → (∀ a, a ∈ ns → a ≤ M) → Q (.int M t') { s with heap := h', toks := tk }) : wpAny (model prog w) A (call (.builtin "max") [.ref l]) Q E s := by
  obtain ⟨xs, e⟩ := hi.allInts.items
  have hn : numsOf (intItems xs).toList = ns := by rw [← e]; exact hi.numsOf
  rw [nums_intItems] at hn
  subst hn
  rw [e] at hl
  have hsz : 0 < xs.size := by simpa using hne
  refine call_max_walk (iterT hl fun s2 es st hfp hlI => ?_)
  subst es
  refine ⟨_, _, _, _, _, _, _, rfl, Walks.tuple (A := A.in1) hh _ l hlI (intItems xs), st, hfp, by simpa [intItems] using hsz, CmpOf.ints_gt (numAt xs) (fun _ _ => intItems_at), fun v h' tk hP hk => ?_⟩
  obtain ⟨t, rfl⟩ := intItems_at hP
  obtain ⟨h1, h2⟩ := argBest_gt (numAt xs) ((intItems xs).size - 1)
  have es2 : (intItems xs).size = xs.size := by simp [intItems]
  rw [es2] at h1 h2 ⊢
  refine h h' tk _ t (oldT hk) ?_ fun a ha => ?_
  · rw [numAt_eq]; exact PySem.getD_mem (by rw [List.length_map, Array.length_toList]; omega)
  · obtain ⟨j, hj, rfl⟩ := mem_getD ha
    rw [List.length_map, Array.length_toList] at hj
    rw [← numAt_eq]; exact h2 j (by omega)
theorem min_tup (hh : A.handled = none) (hl : s.heap.IsTuple l its.toArray) (hi : IntsAre its ns) (hne : 0 < ns.length)
    (h : ∀ h' tk M t', (∀ b o, s.heap.get? b = some o → h'.get? b = some o) → M ∈ ns → (∀ a, a ∈ ns → M ≤ a) → Q (.int M t') { s with heap := h', toks := tk }) : wpAny (model prog w) A (call (.builtin "min") [.ref l]) Q E s := by
  obtain ⟨xs, e⟩ := hi.allInts.items
  have hn : numsOf (intItems xs).toList = ns := by rw [← e]; exact hi.numsOf
  rw [nums_intItems] at hn
  subst hn
  rw [e] at hl
  have hsz : 0 < xs.size := by simpa using hne
  refine call_min_walk (iterT hl fun s2 es st hfp hlI => ?_)
  subst es
  refine ⟨_, _, _, _, _, _, _, rfl, Walks.tuple (A := A.in1) hh _ l hlI (intItems xs), st, hfp, by simpa [intItems] using hsz, CmpOf.ints_lt (numAt xs) (fun _ _ => intItems_at), fun v h' tk hP hk => ?_⟩
  obtain ⟨t, rfl⟩ := intItems_at hP
  obtain ⟨h1, h2⟩ := argBest_lt (numAt xs) ((intItems xs).size - 1)
  have es2 : (intItems xs).size = xs.size := by simp [intItems]
  rw [es2] at h1 h2 ⊢
  refine h h' tk _ t (oldT hk) ?_ fun a ha => ?_
  · rw [numAt_eq]; exact PySem.getD_mem (by rw [List.length_map, Array.length_toList]; omega)
  · obtain ⟨j, hj, rfl⟩ := mem_getD ha
    rw [List.length_map, Array.length_toList] at hj
    rw [← numAt_eq]; exact h2 j (by omega)
end
def rMaxT (K : PySem.W.Frag) : List V → Hp → VK → Prop := fun vs H Q => ∃ (a : Addr) (ns : List Int), vs = [V.ref a] ∧ SqT K H a (ns.map V.int) ∧ 0 < ns.length ∧ ∀ m, m ∈ ns → (∀ y, y ∈ ns → y ≤ m) → Q (.int m) H
def rMinT (K : PySem.W.Frag) : List V → Hp → VK → Prop := fun vs H Q => ∃ (a : Addr) (ns : List Int), vs = [V.ref a] ∧ SqT K H a (ns.map V.int) ∧ 0 < ns.length ∧ ∀ m, m ∈ ns → (∀ y, y ∈ ns → m ≤ y) → Q (.int m) H
section
variable {X : Cx}
theorem cr_maxT (hc : X.calm = true) : CallR X (.builtin "max") (rMaxT X.K) := by
  intro pins s σ H vs us Q I r h
  obtain ⟨a, ns, rfl, hs, hne, q⟩ := h
  obtain ⟨its, rv, hl, _⟩ := I.tuple hs
  rw [Vals.ref1 r]
  exact max_tup (I.ok.hd hc) hl rv.ints hne fun h' tk m t' hk h1 h2 => ⟨.int _, H, I.kept hk, ⟨_, rfl⟩, q m h1 h2⟩
theorem cr_minT (hc : X.calm = true) : CallR X (.builtin "min") (rMinT X.K) := by
  intro pins s σ H vs us Q I r h
  obtain ⟨a, ns, rfl, hs, hne, q⟩ := h
  obtain ⟨its, rv, hl, _⟩ := I.tuple hs
  rw [Vals.ref1 r]
  exact min_tup (I.ok.hd hc) hl rv.ints hne fun h' tk m t' hk h1 h2 => ⟨.int _, H, I.kept hk, ⟨_, rfl⟩, q m h1 h2⟩
/-! ### a tuple's index -/
theorem mt_tupIx : MtR X "tuple.index" (fun x xs H Q => ∃ (p : Addr) (ns : List Int) (k : Int), x = .ref p ∧ xs = [.int k] ∧ SqT X.K H p (ns.map V.int) ∧ k ∈ ns ∧ Q (.int (ns.idxOf k : Nat)) H) := by
  intro pins s σ H x xs v us Q I rx r h
  obtain ⟨p, ns, k, rfl, rfl, hs, hk, q⟩ := h
  obtain ⟨its, rv, hl, _⟩ := I.tuple hs
  cases rx
  obtain ⟨u, rfl, t, rfl⟩ := vals1 r
  exact PySem.SeqAt.tuple_index_ints hl rv.ints hk ⟨.int _, H, I.tok _, ⟨_, rfl⟩, q⟩
/-! ### a text by a number -/
theorem op_repS : OpR X (binaryOp .Mult) (fun x y H Q => ∃ (z : Str) (k : Int), x = .str z ∧ y = .int k ∧ 1 ≤ k ∧ k ≤ 8 ∧ z.length = 1 ∧ Q (.str ⟨(List.replicate k.toNat z.cps).foldl (· ++ ·) #[]⟩) H) := by
  intro pins s σ H x y v u Q I rx ry h
  obtain ⟨z, k, rfl, rfl, h1, h2, hz, q⟩ := h
  obtain ⟨t, rfl⟩ := rx
  obtain ⟨t', rfl⟩ := ry
  refine PySem.P.mul_str (by rw [decide_eq_false (by omega), decide_eq_false (by omega)]; rfl) (fun _ _ => ?_) (fun _ _ => ?_) ?_
  · rw [hz]
    have : k = 1 ∨ k = 2 ∨ k = 3 ∨ k = 4 ∨ k = 5 ∨ k = 6 ∨ k = 7 ∨ k = 8 := by omega
    rcases this with e | e | e | e | e | e | e | e <;> subst e <;> decide
  · rw [hz]
    have : k = 1 ∨ k = 2 ∨ k = 3 ∨ k = 4 ∨ k = 5 ∨ k = 6 ∨ k = 7 ∨ k = 8 := by omega
    rcases this with e | e | e | e | e | e | e | e <;> subst e <;> decide +kernel
  · rw [if_neg (by omega)]
    by_cases hk : k = 1
    · subst hk
      rw [if_pos (by simp)]
      refine ⟨.str _, H, I, ⟨t, rfl⟩, ?_⟩
      have e : (⟨(List.replicate (1 : Int).toNat z.cps).foldl (· ++ ·) #[]⟩ : Str) = z := by
        show (⟨#[] ++ z.cps⟩ : Str) = z
        simp
      rw [e] at q
      exact q
    · rw [if_neg (by simp [hk, hz])]
      refine ⟨?_, ?_⟩
      · rw [sizeLine_eq]
        show ((List.replicate k.toNat z.cps).foldl (· ++ ·) #[]).size ≤ _
        have hz1 : z.cps.size = 1 := hz
        have : k = 2 ∨ k = 3 ∨ k = 4 ∨ k = 5 ∨ k = 6 ∨ k = 7 ∨ k = 8 := by omega
        rcases this with e | e | e | e | e | e | e <;> subst e <;> simp [List.replicate, hz1]
      · exact ⟨.str _, H, I.tok _, ⟨_, rfl⟩, q⟩
end

/-! ### enumerate over a tuple -/
/-- the tuple at a, each item in a new pair -/
def IteT (K : PySem.W.Frag) (a : Addr) : It :=
  ⟨fun i H => ∃ (xs : List V) (x : V), SqT K H a xs ∧ xs[i]? = some x, fun i H v H' => ∃ T x, v = .ref T ∧ H T = none ∧ H' = upd H T (.tup [.int (i : Nat), x]) ∧ ∀ xs, SqT K H a xs → xs[i]? = some x, fun i H => ∃ xs : List V, SqT K H a xs ∧ xs.length ≤ i⟩
theorem turn_enumT {P : Program} {w : World} {K : PySem.W.Frag} {elts : List Expr} {kk : Nat} {tpos : Pos} (a e it : Addr) :
    Turn P w K (.Tuple elts kk tpos) (IteT K a) [e, it] e (fun i h => (∃ old, IsEnum h e it ((i : Nat) : Int) old) ∧ h.IsTupleIter it a i ∧ e ≠ it) where
  mem := by simp
  obj := fun i h st b hb => by
    obtain ⟨⟨old, he⟩, ⟨o, ho, hc, hd⟩, _⟩ := st
    rcases (show b = e ∨ b = it by simpa using hb) with z | z
    · rw [z]; exact ⟨_, he, fun v q => nomatch q⟩
    · rw [z]; exact ⟨o, ho, fun v q => by rw [hd] at q; cases q⟩
  keep := fun i h h' st k => let ⟨⟨old, he⟩, hi, hne⟩ := st; ⟨⟨old, k e (by simp) _ he⟩, hi.at fun o q => k it (by simp) o q, hne⟩
  item := by
    intro X hP hw hK hc i pins s σ H E I hf st hg
    subst hP hw hK
    obtain ⟨⟨old, he⟩, hit, hne⟩ := st
    obtain ⟨xs, x, hq, hx⟩ := hg
    obtain ⟨its, rv, p, hz⟩ := I.tuple hq
    obtain ⟨u, hu, ru⟩ := rv.get hx
    have hit0 := hit
    obtain ⟨oi, hoi, _⟩ := id hit
    obtain ⟨ot, hot, hct, ht0⟩ := id p
    have hel : e < s.heap.objs.size := Heap.lt_size he
    have hil : it < s.heap.objs.size := Heap.lt_size hoi
    have hai : a ≠ it := fun z => by
      obtain ⟨o1, e1, c1, _⟩ := hit
      rw [← z, hot] at e1
      cases e1
      rw [hct] at c1
      exact absurd c1 (by decide)
    have hae : e ≠ a := fun z => by
      have he9 : s.heap.get? e = some { cls := .type "enumerate", dict := none, data := .fields #[.none, .bool false, .ref it, rawInt ((i : Nat) : Int), .none, old], slots := #[] } := he
      rw [z, hot] at he9
      cases he9
      exact absurd (show Value.type "enumerate" = Value.type "tuple" from hct) (by decide)
    have hlt : i < its.toArray.size := by
      have := (List.getElem?_eq_some_iff.mp hu).1
      simpa using this
    refine wpAny_pyNext_enum_itemD (Draws.tuple (A := X.A.in1) (I.ok.hd hc) it a hai its.toArray) he ⟨hit, p⟩ hlt hne (by simp [hne, hae]) fun x2 h' tk hPx ho hst' hT hsz hk => ?_
    have ex : x2 = u := by
      have q1 : its.toArray[i]? = some u := by simpa using hu
      have q2 : its.toArray[i]? = some x2 := hPx
      rw [q1] at q2
      exact (Option.some.inj q2).symm
    subst ex
    refine ⟨_, rfl, wpAny_letOwnedTupleGo_enum (s := { s with heap := h', toks := tk + 1 }) ho fun h2 he2 sb => ?_⟩
    have hT2 : h2.get? s.heap.objs.size = some { cls := .type "tuple", data := .seq #[.int i tk, x2] } := (sb.2 _ (Nat.ne_of_gt hel)).trans hT
    have new : ObjOk X.prog X.w (upd H s.heap.objs.size (.tup [.int (i : Nat), x])) h2 s.heap.objs.size (.tup [.int (i : Nat), x]) :=
      ⟨by show 2 ≤ sizeLine; decide, [.int i tk, x2], .cons ⟨_, rfl⟩ (.cons ru .nil), ⟨_, hT2, rfl, _, rfl⟩⟩
    have I1 : Inv X pins σ (upd H s.heap.objs.size (.tup [.int (i : Nat), x])) { s with heap := h2, toks := tk + 1 } :=
      I.turnedNew (ch := [e, it]) (fun b ob hb q => (sb.2 b (fun z => hb (by simp [z]))).trans (hk b ob (fun z => hb (by simp [z])) (fun z => hb (by simp [z])) q)) hf (Nat.le_refl _) new
    refine ⟨.ref s.heap.objs.size, _, I1, rfl, ⟨_, x, rfl, I.hok.fresh (Nat.le_refl _), rfl, fun ys hy => by rw [I.tuple_inj hy hq]; exact hx⟩, ⟨⟨x2, ?_⟩, hst'.1.at fun o q => (sb.2 it (Ne.symm hne)).trans q, hne⟩, fun b hb => ?_⟩
    · have e1 : ((i + 1 : Nat) : Int) = (i : Int) + 1 := by omega
      rw [e1]; exact he2
    · have hb' : b < s.heap.objs.size := by
        rcases (show b = e ∨ b = it by simpa using hb) with z | z
        · rw [z]; exact hel
        · rw [z]; exact hil
      rw [upd_ne (Nat.ne_of_lt hb')]
      exact (hf b hb).1
  done := by
    intro X hP hw hK hc i pins s σ H E I hf st hg
    subst hP hw hK
    obtain ⟨⟨old, he⟩, hit, hne⟩ := st
    obtain ⟨xs, hq, hx⟩ := hg
    obtain ⟨its, rv, p, hz⟩ := I.tuple hq
    obtain ⟨f0, f1, f2, f3, f4, f5⟩ := hf it (by simp)
    have hl := rv.length
    have hT : s.TypeIs (.ref e) "enumerate" := ⟨_, he, rfl⟩
    unfold pyNext
    refine wpAny_bind (wpAny_attempt (wpAny_callSpecial?_slot (name := Str.ofString "__next__") hT F.slot_enumerate_next (wpAny_call_entry F.slot_enumerate_next hT F.entry_enumerate_next ?_ (F.args_enumerate_next_1 _))))
    show wpAny _ _ (field (.ref e) 2 >>= _) _ _ _
    refine wpAny_bind (wpAny_field he rfl (x := .ref it) rfl ?_)
    refine wpAny_bind (wpAny_nextOf_tuple_end (I.ok.hd hc) hit (show s.heap.IsTuple a its.toArray from p) (by simp; omega) fun h' x he' hx' => ?_)
    obtain ⟨o, ho, hcc⟩ := hx'
    refine wpAny_bind (wpAny_isInstance (T := "StopIteration") (b := true) ⟨o, ho, hcc⟩ isSubtype_stop ?_)
    exact wpAny_pure ⟨rfl, I.turned (t' := s.toks) (fun b o hb q => he' b o hb q) f0 f1 f3 f4 f5⟩
  self := fun A i s Q E st h => let ⟨⟨_, he⟩, _⟩ := st; wpAny_pyIter_enum he h
set_option maxHeartbeats 1000000 in
theorem meets_enum1 {v : Value} {o : Obj} {H : Heap → Prop} (B : Begins v o H) :
    Meets (Builtin.«enumerate.__new__» ⟨[.type "enumerate", v], []⟩) (fun _ R s => H s.heap ∧
      R (.ok (.ret (.ref (s.heap.push o).objs.size))) { s with heap := (s.heap.push o).push { cls := .type "enumerate", data := .fields #[.none, .bool false, .ref s.heap.objs.size, rawInt 0, .none, .none] } }) :=
  .of_wp fun prog w A R s h => by
    obtain ⟨hp, g, d, tk, os⟩ := s
    obtain ⟨h1, h⟩ := h
    have hsub := sub_enumerate
    have q1 : ∀ {A' : Around} {E : Value → Shared → Prop} {Q : Value → Shared → Prop}, Q (.ref hp.objs.size) ⟨hp.push o, g, d, tk, os⟩ → wpAny (model prog w) A' (pyIter v) Q E ⟨hp, g, d, tk, os⟩ :=
      fun q => B.iter prog w _ _ ⟨hp, g, d, tk, os⟩ _ h1 q
    wp_walk using q1
    refine wpAny_stack_any fun st => wpAny_pure ?_
    split
    · rename_i c _ _ _ _ _
      cases (c == Value.type "enumerate")
      · wp_walk using q1
        exact ⟨_, rfl, h⟩
      · wp_walk using q1
        exact ⟨_, rfl, h⟩
    · wp_walk using q1
      exact ⟨_, rfl, h⟩
theorem enum_tup {prog : Program} {w : World} {A : Around} {E : Value → Shared → Prop} {s : Shared} {l : Addr} {items : Array Value} {Q : Value → Shared → Prop} (hL : s.heap.IsTuple l items)
    (h : ∀ h', IsEnum h' (s.heap.objs.size + 1) s.heap.objs.size 0 .none → h'.IsTupleIter s.heap.objs.size l 0 → (∀ b o, s.heap.get? b = some o → h'.get? b = some o) → Q (.ref (s.heap.objs.size + 1)) { s with heap := h' }) :
    wpAny (model prog w) A (call (.type "enumerate") [.ref l]) Q E s := by
  refine callType_new F.called_enumerate (by decide) (F.typeCall_enumerate_1 _) (F.newCall_enumerate_1 _) (fun obj => F.args_object_init_2 obj _) F.entry_enumerate_new (meets_enum1 (begins_tuple l items)) ⟨hL, ?_⟩
  have hz : (s.heap.push { cls := .type "tuple_iterator", data := .fields #[.ref l, .int 0 0] }).objs.size = s.heap.objs.size + 1 := Heap.size_push ..
  show _ ∧ _
  rw [hz]
  have he : IsEnum ((s.heap.push { cls := .type "tuple_iterator", data := .fields #[.ref l, .int 0 0] }).push { cls := .type "enumerate", data := .fields #[.none, .bool false, .ref s.heap.objs.size, rawInt 0, .none, .none] }) (s.heap.objs.size + 1) s.heap.objs.size 0 .none := by
    have q := Heap.get?_push_size (s.heap.push { cls := .type "tuple_iterator", data := .fields #[.ref l, .int 0 0] }) (o := { cls := .type "enumerate", data := .fields #[.none, .bool false, .ref s.heap.objs.size, rawInt 0, .none, .none] }) rfl
    rw [hz] at q; exact q
  exact ⟨⟨_, he, rfl⟩, h _ he ⟨_, Heap.get?_push_of_some _ (Heap.get?_push_size _ rfl), rfl, rfl⟩ fun b o x => Heap.get?_push_of_some _ (Heap.get?_push_of_some _ x)⟩
def iEnumT (K : PySem.W.Frag) (ta : TA) : TI := fun σ H R => ta σ H fun vs H1 => ∃ a xs, vs = [.ref a] ∧ SqT K H1 a xs ∧ R (IteT K a) H1
theorem pi_enumT {X : Cx} {e : Expr} {ta : TA} {p pos tpos : Pos} {elts : List Expr} {kk : Nat} (hg : Gl X "enumerate") (hm : X.mg "enumerate" = none) (ha : PA X [e] ta) (hs : starEach [e] X.env = [(false, eval e X.env)] := by rfl) :
    PI X (.Tuple elts kk tpos) (.Call (.Name "enumerate" p) [e] [] pos) (iEnumT X.K ta) := by
  refine ⟨fun pins s σ H R I h => ?_⟩
  refine Call_ (ld_blt I hg hm boot_enumerate (PyProof.Rows.callWith_type1 (thn (ha.run pos pins s σ H _ I h) fun us s1 ⟨vs, H1, I1, r1, q1⟩ => ?_) hs rfl))
  obtain ⟨a, xs, ex, hq, q⟩ := q1
  subst ex
  cases r1 with
  | cons r rr =>
    cases rr
    cases r
    obtain ⟨its, rv, p', hz⟩ := I1.tuple hq
    refine enum_tup (items := its.toArray) p' fun h' he hit hk => wpAny_pyIter_enum he ?_
    have I2 : Inv X pins σ H1 { s1 with heap := h' } := I1.kept (t' := s1.toks) hk
    refine ⟨s1.heap.objs.size + 1, [s1.heap.objs.size + 1, s1.heap.objs.size], _, _, H1, rfl, I2, turn_enumT a (s1.heap.objs.size + 1) s1.heap.objs.size, ⟨⟨.none, he⟩, hit, Nat.succ_ne_self _⟩, fun b hb => ?_, q⟩
    have hle : s1.heap.objs.size ≤ b := by
      rcases (show b = s1.heap.objs.size + 1 ∨ b = s1.heap.objs.size by simpa using hb) with z | z
      · rw [z]; exact Nat.le_add_right _ _
      · rw [z]; exact Nat.le_refl _
    exact I1.fpOk hle (I1.hok.fresh hle)

/-! ### list(reversed(a list)) -/
theorem extend_rev {prog : Program} {w : World} {A : Around} {R : Result → Shared → Prop} {s : Shared} {it l S : Addr} {items : Array Value} {c0 : Nat} (hh : A.handled = none) (hit : s.heap.IsRevIter it l ((items.size : Int) - 1)) (hl : s.heap.IsList l items) (hne : l ≠ it) (hSi : S ≠ it) (hSl : S ≠ l) (hn : items.size ≤ sizeLine)
    (hS : s.heap.get? S = some { cls := .type "list", data := .seq (#[] : Array Value) c0 })
    (hR : ∀ (h' : Heap) (tk : Nat) (acc : Array Value) (c' : Nat), (∀ b o, b ≠ it → b ≠ S → s.heap.get? b = some o → h'.get? b = some o) → h'.get? S = some { cls := .type "list", dict := none, data := .seq acc c', slots := #[] } → ItemsOf (fun i v => items[items.size - 1 - i]? = some v) acc items.size → R (.ok (.ret .none)) { s with heap := h', toks := tk }) :
    wpAny (model prog w) A.in1 (Builtin.List.listExtendWith (.ref S) (.ref it) .none)
      (fun fin s' => match fin with | .done f => R (.ok f) s' | .again c' => c'.quiet = true ∧ codeAny (model prog w) A c' R s') (fun e s' => R (.error e) s') s := by
  have W := (Walks.listRev (prog := prog) (w := w) (A := A.in1) hh it l hne items).toS
  have hSf : S ∉ [it, l] := by simp only [List.mem_cons, List.not_mem_nil, or_false, not_or]; exact ⟨hSi, hSl⟩
  have hT : s.TypeIs (.ref it) "list_reverseiterator" := Heap.IsRevIter.typeIs hit
  have h1 : Builtin.List.listSameRef (.ref S) (.ref it) = false := by simp [Builtin.List.listSameRef, hSi]
  unfold Builtin.List.listExtendWith
  refine wpAny_bind (wpAny_typeOf hT ?_)
  rw [if_neg (by rw [h1]; decide)]
  refine wpAny_bind (wpAny_pyIter_revIter hit ?_)
  refine wpAny_bind (wpAny_holding ?_)
  unfold Builtin.List.listLengthHint
  refine wpAny_bind (wpAny_specialOf hT RT.nolen_lri ?_)
  show wpAny _ A.in1 (specialOf (Value.ref it) (Str.ofString "__length_hint__") >>= _) _ _ _
  refine wpAny_bind (wpAny_specialOf hT RT.hint_lri ?_)
  generalize hid : ("list_reverseiterator.__length_hint__" : String) = id0
  wp_delta
  rw [show splitId id0 = some ("list_reverseiterator", "__length_hint__") from by subst hid; decide +kernel]
  subst hid
  refine wpAny_bind (wpAny_isInstance (b := true) hT (by rw [isSubtype_type]; kernel_rfl) ?_)
  refine wpAny_pure ?_
  rw [if_neg (by decide)]
  have e0 : ((items.size : Nat) : Int) - 1 - ((0 : Nat) : Int) = (items.size : Int) - 1 := by omega
  refine wpAny_pure ⟨plainId_quiet F.plain_extend_loop _, codeAny_extend_loopS W hn _ hSf _ items.size 0 _ _ _ rfl (Nat.zero_le _) ⟨Nat.zero_le _, by rw [e0]; exact hit, hl⟩ hS (ItemsOf.nil _) fun s' acc' c' hm hS' hacc => ?_⟩
  rw [Moved.eq_with hm]
  refine hR s'.heap s'.toks acc' c' (fun b o hb hb2 e => hm.heap b o (fun hmem => ?_) e) hS' hacc
  rcases List.mem_cons.mp hmem with e' | hmem
  · exact hb2 e'
  · exact hb (List.mem_singleton.mp hmem)
theorem call_list_rev {prog : Program} {w : World} {A : Around} {E : Value → Shared → Prop} {s : Shared} {it l : Addr} {items : Array Value} {Q : Value → Shared → Prop} (hh : A.handled = none) (hit : s.heap.IsRevIter it l ((items.size : Int) - 1)) (hl : s.heap.IsList l items) (hne : l ≠ it) (hn : items.size ≤ sizeLine)
    (hQ : ∀ (h' : Heap) (tk : Nat) (acc : Array Value) (c' : Nat), (∀ b o, b ≠ it → s.heap.get? b = some o → h'.get? b = some o) → h'.get? s.heap.objs.size = some { cls := .type "list", dict := none, data := .seq acc c', slots := #[] } → ItemsOf (fun i v => items[items.size - 1 - i]? = some v) acc items.size →
      Q (.ref s.heap.objs.size) { s with heap := h', toks := tk }) : wpAny (model prog w) A (call (.type "list") [.ref it]) Q E s := by
  obtain ⟨oi, hoi, _⟩ := id hit
  obtain ⟨ol, hol, _⟩ := id hl
  have hSi : s.heap.objs.size ≠ it := Nat.ne_of_gt (Heap.lt_size hoi)
  have hSl : s.heap.objs.size ≠ l := Nat.ne_of_gt (Heap.lt_size hol)
  refine callType_codes (Q₁ := fun obj s1 => obj = .ref s.heap.objs.size ∧ s1 = { s with heap := s.heap.push { cls := .type "list", data := .seq #[] } }) F.called_list (F.typeCall_list_1 _) F.entry_list_init (code_list_new _ ⟨rfl, rfl⟩) fun obj s1 h1 => ?_
  obtain ⟨rfl, rfl⟩ := h1
  have hS : (s.heap.push { cls := .type "list", data := .seq #[] }).get? s.heap.objs.size = some { cls := .type "list", data := .seq #[] } := Heap.get?_push_size _ rfl
  refine ⟨⟨_, hS, rfl⟩, F.args_list_init_2 _ _, ?_⟩
  show wpAny _ A.in1.in1 (do let old ← Builtin.List.listItems (.ref s.heap.objs.size); Builtin.List.listUpdate (.ref s.heap.objs.size) (fun _ => #[]); letGo old.toList.reverse; Builtin.List.listExtendWith (.ref s.heap.objs.size) (.ref it) .none) _ _ _
  refine wpAny_bind ?_
  unfold Builtin.List.listItems
  refine wpAny_bind (wpAny_seqItems hS rfl (wpAny_pure ?_))
  show wpAny _ _ (updateSeq s.heap.objs.size (fun _ => #[]) >>= fun _ => letGo (#[] : Array Value).toList.reverse >>= fun _ => Builtin.List.listExtendWith (.ref s.heap.objs.size) (.ref it) .none) _ _ _
  refine wpAny_bind (wpAny_updateSeq hS rfl ?_)
  have hS2 := Heap.get?_update_self (Obj.mapSeq (fun _ => (#[] : Array Value))) hS rfl
  have oth : ∀ b o, b ≠ s.heap.objs.size → s.heap.get? b = some o → ((s.heap.push { cls := .type "list", data := .seq #[] }).update s.heap.objs.size (Obj.mapSeq (fun _ => (#[] : Array Value)))).get? b = some o :=
    fun b o hb e => (Heap.get?_update_other _ _ (Ne.symm hb)).trans (Heap.get?_push_of_some _ e)
  refine wpAny_bind (wpAny_letGo ?_)
  refine extend_rev (A := A.in1) (l := l) (items := items) hh (hit.at fun o e => oth it o (Ne.symm hSi) e) (hl.at fun o e => oth l o (Ne.symm hSl) e) hne hSi hSl hn hS2 fun h' tk acc c' hk hS' hacc => ?_
  exact ⟨rfl, hQ h' tk acc c' (fun b o hb e => hk b o hb (Nat.ne_of_lt (Heap.lt_size e)) (oth b o (Nat.ne_of_lt (Heap.lt_size e)) e)) hS' hacc⟩
def tLstRev (K : PySem.W.Frag) (te : TE) : TE := fun σ H Q => te σ H fun v H1 => ∃ (a : Addr) (xs : List V), v = .ref a ∧ SqL K H1 a xs ∧ ∀ q, H1 q = none → Q (.ref q) (upd H1 q (.lst xs.reverse))
theorem pe_lstRev {X : Cx} {e : Expr} {te : TE} {p p2 pos pos2 : Pos} (hc : X.calm = true) (hg : Gl X "list") (hm : X.mg "list" = none) (hg2 : Gl X "reversed") (hm2 : X.mg "reversed" = none) (he : PE X e te)
    (hs : starEach [e] X.env = (false, eval e X.env) :: starEach [] X.env := by rfl)
    (hs2 : starEach [.Call (.Name "reversed" p2) [e] [] pos2] X.env = (false, eval (.Call (.Name "reversed" p2) [e] [] pos2) X.env) :: starEach [] X.env := by rfl) :
    PE X (.Call (.Name "list" p) [.Call (.Name "reversed" p2) [e] [] pos2] [] pos) (tLstRev X.K te) := by
  refine ⟨fun pins s σ H Q I h => ?_⟩
  refine Call_ (ld_blt I hg hm boot_list (PyProof.Rows.callWith_type1 (args_cons (Call_ (ld_blt I hg2 hm2 PyProof.Rows.boot_reversed (PyProof.Rows.callWith_type1 (args_cons (thn (he.run pins s σ H _ I h) fun u s1 ⟨v, H1, I1, r1, q1⟩ => args_nil ?_) hs) hs rfl))) hs2) hs2 rfl))
  obtain ⟨a, xs, ev, hq, q⟩ := q1
  subst ev
  obtain rfl : u = Value.ref a := r1
  obtain ⟨its, rv, p', hz⟩ := I1.list hq
  refine call_reversed_list p'.isList (args_nil ?_)
  have k0 : ∀ b o, s1.heap.get? b = some o → (s1.heap.push (revObj a ((its.toArray.size : Int) - 1))).get? b = some o := fun b o e => Heap.get?_push_of_some _ e
  have I2 : Inv X pins σ H1 { s1 with heap := s1.heap.push (revObj a ((its.toArray.size : Int) - 1)) } := I1.kept (t' := s1.toks) k0
  obtain ⟨f0, f1, f2, f3, f4, f5⟩ := I1.fpOk (H' := H1) (b := s1.heap.objs.size) (Nat.le_refl _) (I1.hok.fresh (Nat.le_refl _))
  have hl := p'.isList
  obtain ⟨ol, hol, _⟩ := id hl
  have hne : a ≠ s1.heap.objs.size := Nat.ne_of_lt (Heap.lt_size hol)
  have hn : its.toArray.size ≤ sizeLine := by rw [List.size_toArray, ← rv.length]; exact hz
  refine call_list_rev (s := { s1 with heap := s1.heap.push (revObj a ((its.toArray.size : Int) - 1)) }) (I1.ok.hd hc) ⟨_, Heap.get?_push_size _ rfl, rfl, rfl⟩ (hl.push _) hne hn fun h' tk acc c' hk hS hi => ?_
  have fp := I1.fpOk (H' := H1) (b := s1.heap.objs.size) (Nat.le_refl _) (I1.hok.fresh (Nat.le_refl _))
  refine ⟨.ref _, _, I2.turnedNew (t' := tk) (ch := [s1.heap.objs.size]) (ob := .lst xs.reverse) (fun b o hb e => hk b o (fun z => hb (by simp [z])) e) (fun b hb => by
    have e : b = s1.heap.objs.size := by simpa using hb
    rw [e]
    exact fp) (Nat.le_refl _) ⟨by rw [List.length_reverse]; exact hz, acc.toList, c', RT.vals_rev rv hi, by rw [Array.toArray_toList]; exact hS⟩, rfl, q _ (I2.hok.fresh (Nat.le_refl _))⟩
/-! ### a tuple by a number -/
theorem tuple_mul0 (l : Addr) (items : Array Value) (n : Nat) (dd : Option Addr) (sl : Array (Option Value)) (u : Tok) (c1 : items.isEmpty = false) :
    Meets (Builtin.«tuple.__mul__» ⟨[.ref l, .int 0 u], []⟩) (fun _ R s => s.heap.get? l = some { cls := .type "tuple", dict := dd, data := .seq items n, slots := sl } ∧
      R (.ok (.ret (Value.ref s.heap.objs.size))) { s with heap := s.heap.push { cls := Value.type "tuple", data := Data.seq #[] }, toks := s.toks }) :=
  .of_wp fun prog w A R s h => by
    obtain ⟨hp, g, d, tk, os⟩ := s
    obtain ⟨hl, h⟩ := h
    have f1 := AutoSeq1.idx_int
    have c2 : (items.isEmpty || (0 : Int) == 1) = false := by rw [c1]; rfl
    wp_walk using AutoSeq1.wpAny_loadPart' hl
    repeat (first
      | (refine wpAny_ite_false (by decide) ?_; wp_walk using AutoSeq1.wpAny_loadPart' hl)
      | (refine wpAny_ite_false (decide_eq_false (by rw [c2]; exact Bool.false_ne_true)) ?_; wp_walk using AutoSeq1.wpAny_loadPart' hl)
      | (refine wpAny_ite_true (by simp) ?_; wp_walk using AutoSeq1.wpAny_loadPart' hl))
    exact ⟨_, rfl, h⟩
theorem tuple_mul1 (l : Addr) (items : Array Value) (n : Nat) (dd : Option Addr) (sl : Array (Option Value)) (u : Tok) :
    Meets (Builtin.«tuple.__mul__» ⟨[.ref l, .int 1 u], []⟩) (fun _ R s => s.heap.get? l = some { cls := .type "tuple", dict := dd, data := .seq items n, slots := sl } ∧
      R (.ok (.ret (Value.ref l))) s) :=
  .of_wp fun prog w A R s h => by
    obtain ⟨hp, g, d, tk, os⟩ := s
    obtain ⟨hl, h⟩ := h
    have f1 := AutoSeq1.idx_int
    wp_walk using AutoSeq1.wpAny_loadPart' hl
    repeat (first
      | (refine wpAny_ite_false (by decide) ?_; wp_walk using AutoSeq1.wpAny_loadPart' hl)
      | (refine wpAny_ite_true (by simp) ?_; wp_walk using AutoSeq1.wpAny_loadPart' hl))
    exact ⟨_, rfl, h⟩
def rRepTA (K : PySem.W.Frag) : R2 := fun x y H Q => ∃ l k xs, x = .ref l ∧ y = .int k ∧ SqT K H l xs ∧ xs ≠ [] ∧ 0 ≤ k ∧ k ≤ 1000 ∧ xs.length ≤ 1000 ∧ (k = 1 → Q (.ref l) H) ∧ (k ≠ 1 → ∀ p, H p = none → Q (.ref p) (upd H p (.tup (List.replicate k.toNat xs).flatten)))
theorem op_repTA {X : Cx} : OpR X (binaryOp .Mult) (rRepTA X.K) := by
  intro pins s σ H x y v u Q I rx ry h
  obtain ⟨l, k, xs, rfl, rfl, hT, hne, h0, h1, hz, q1, q2⟩ := h
  by_cases hk2 : 2 ≤ k
  · exact op_repT pins s σ H (.ref l) (.int k) v u Q I rx ry ⟨l, k, xs, rfl, rfl, hT, hne, hk2, h1, hz, q2 (by omega)⟩
  cases rx
  obtain ⟨t, rfl⟩ := ry
  obtain ⟨its, r, ⟨⟨cls, dd, data, sl⟩, ho, hc, n, hd⟩, hs⟩ := I.tuple hT
  simp only at hc hd
  subst hc hd
  have hle : its.length = xs.length := r.length.symm
  have hn : its ≠ [] := fun e => hne (by
    rw [e] at hle
    exact List.eq_nil_of_length_eq_zero hle.symm)
  have hi : its.toArray.isEmpty = false := by
    cases its with
    | nil => exact absurd rfl hn
    | cons a b => rfl
  have e01 : k = 0 ∨ k = 1 := by omega
  rcases e01 with e | e
  · subst e
    refine wpAny_binaryOp_repeat_ref (T := "tuple") (U := "int") (by decide) ⟨_, ho, rfl⟩ (fun s' => typeIs_int s' 0 t) noFill_tuple_mul F.fills_int_mul F.slot_int_rmul repeat_tuple F.slot_int_index.lookup
      (call_meets F.slot_int_rmul (typeIs_int s 0 t) F.entry_int_rmul (F.args_int_rmul_2 _ _) (int_rmul_tuple 0 t l its.toArray n dd sl)
        ⟨ho, rfl, ⟨_, ho, rfl⟩, call_meets F.slot_tuple_mul ⟨_, ho, rfl⟩ F.entry_tuple_mul (F.args_tuple_mul_2 _ _) (tuple_mul0 l its.toArray n dd sl t hi) ⟨ho, ?_⟩⟩)
    refine ⟨.ref s.heap.objs.size, _, I.laid (t' := s.toks) (o := .tup []) (fun b ob q => Heap.get?_push_of_some _ q) (Nat.le_refl _) ?_, rfl, q2 (by decide) _ (I.hok.fresh (Nat.le_refl _))⟩
    exact ⟨Nat.zero_le _, [], .nil, IsTup.new _ _⟩
  · subst e
    refine wpAny_binaryOp_repeat_ref (T := "tuple") (U := "int") (by decide) ⟨_, ho, rfl⟩ (fun s' => typeIs_int s' 1 t) noFill_tuple_mul F.fills_int_mul F.slot_int_rmul repeat_tuple F.slot_int_index.lookup
      (call_meets F.slot_int_rmul (typeIs_int s 1 t) F.entry_int_rmul (F.args_int_rmul_2 _ _) (int_rmul_tuple 1 t l its.toArray n dd sl)
        ⟨ho, rfl, ⟨_, ho, rfl⟩, call_meets F.slot_tuple_mul ⟨_, ho, rfl⟩ F.entry_tuple_mul (F.args_tuple_mul_2 _ _) (tuple_mul1 l its.toArray n dd sl t) ⟨ho, ?_⟩⟩)
    exact ⟨.ref l, H, I, rfl, q1 rfl⟩
/-! ### rules told by K, for a comprehension's block -/
theorem pe_fldK {X : Cx} {K : PySem.W.Frag} {e : Expr} {f : Str} {ta : TE} {pos : Pos} (hK : X.K = K) (he : PE X e ta) (hb : attributeBase e f X.env (eval e X.env) = eval e X.env) : PE X (.Attribute e f pos) (tFld K ta f) := by
  subst hK
  exact pe_fld he hb
theorem pg_tupK {X : Cx} {K : PySem.W.Frag} {es : List Expr} {k : Nat} {t : TGs} {n : Nat} {pos : Pos} (hK : X.K = K) (hc : X.calm = true) (h : PGs X es t)
    (hn : (assignEach es X.env).length = n := by rfl) (hst : (assignEach es X.env).findIdx? (·.1) = none := by rfl) : PG X (.Tuple es k pos) (gTup K n t) := by
  subst hK
  exact pg_tup hc h hn hst
theorem pe_ixOfK {X : Cx} {K : PySem.W.Frag} {o e : Expr} {es : List Expr} {to : TE} {t : TA} {apos cpos : Pos} (hK : X.K = K) (ho : PE X o to) (ha : PA X (e :: es) t)
    (hbase : attributeBase o "index" X.env (eval o X.env) = eval o X.env := by rfl)
    (hfew : ((backTo cpos (starEach (e :: es) X.env)).all (fun x => !x.1) && (backToKw cpos (keywordEach [] X.env)).all (fun x => x.1.isSome)
      && decide ((e :: es).length + ([] : List Keyword).length + (if ([] : List Keyword).isEmpty then 0 else 1) < 30)) = true := by rfl)
    (hline : (apos.endLine == cpos.line) = true := by rfl) (hs : starEach (e :: es) X.env = (false, eval e X.env) :: starEach es X.env := by rfl) (hplain : (backTo cpos (starEach es X.env)).any (·.1) = false := by rfl) :
    PE X (.Call (.Attribute o "index" apos) (e :: es) [] cpos) (tBM K "list" (rIndex K) to t) := by
  subst hK
  exact pe_bm PySem.F.plainAttrs_list PySem.F.slot_list_index PySem.F.type_list_index mt_index ho ha hbase hfew hline hs hplain
/-! ### a tuple made of a list, its object known; its index -/
theorem call_tupF {X : Cx} : CallR X (.type "tuple") (fun xs H Q => ∃ p ys, xs = [.ref p] ∧ SqL X.K H p ys ∧ ∀ l o, H l = none → o.dict = none → Q (.ref l) (upd H l (.frz o (.tup ys)))) := by
  intro pins s σ H xs us Q I r h
  obtain ⟨p, ys, rfl, hq, q⟩ := h
  obtain ⟨u, rfl, rx⟩ := vals1 r
  cases rx
  obtain ⟨its, r', pl, hz⟩ := I.list hq
  have hlen := r'.length
  refine call_tuple_list pl.isList (fun h' kp => ?_) (by simp only [List.size_toArray] <;> omega)
  have I1 : Inv X pins σ H { s with heap := h' } := I.kept (t' := s.toks) kp
  have I2 : Inv X pins σ (upd H h'.objs.size (.frz { cls := .type "tuple", data := .seq its.toArray } (.tup ys))) { s with heap := h'.push { cls := .type "tuple", data := .seq its.toArray } } :=
    I1.laid (t' := s.toks) (fun b o e => Heap.get?_push_of_some _ e) (Nat.le_refl _) (show ObjOk X.prog X.w _ _ _ (.frz _ (.tup ys)) from ⟨Heap.get?_push_size _ rfl, hz, its, r', IsTup.new _ _⟩)
  exact ⟨.ref h'.objs.size, _, I2, rfl, q _ _ (I1.hok.fresh (Nat.le_refl _)) rfl⟩
def rTupIx : V → List V → Hp → VK → Prop := fun x xs H Q => ∃ (p : Addr) (ob : Obj) (ns : List Int) (k : Int), x = .ref p ∧ xs = [.int k] ∧ H p = some (.frz ob (.tup (ns.map V.int))) ∧ ob.dict = none ∧ k ∈ ns ∧ Q (.int (ns.idxOf k : Nat)) H
def tTupIx (to : TE) (t : TA) : TE := fun σ H Q => to σ H fun x H1 => (∃ (p : Addr) (ob : Obj) (ns : List Int), x = .ref p ∧ H1 p = some (.frz ob (.tup (ns.map V.int))) ∧ ob.dict = none) ∧ t σ H1 fun xs H2 => rTupIx x xs H2 Q
theorem pe_tupIx {X : Cx} {o e : Expr} {es : List Expr} {to : TE} {t : TA} {apos cpos : Pos} (ho : PE X o to) (ha : PA X (e :: es) t)
    (hbase : attributeBase o "index" X.env (eval o X.env) = eval o X.env := by rfl)
    (hfew : ((backTo cpos (starEach (e :: es) X.env)).all (fun x => !x.1) && (backToKw cpos (keywordEach [] X.env)).all (fun x => x.1.isSome)
      && decide ((e :: es).length + ([] : List Keyword).length + (if ([] : List Keyword).isEmpty then 0 else 1) < 30)) = true := by rfl)
    (hline : (apos.endLine == cpos.line) = true := by rfl) (hs : starEach (e :: es) X.env = (false, eval e X.env) :: starEach es X.env := by rfl) (hplain : (backTo cpos (starEach es X.env)).any (·.1) = false := by rfl) :
    PE X (.Call (.Attribute o "index" apos) (e :: es) [] cpos) (tTupIx to t) := by
  refine ⟨fun pins s σ H Q I h => ?_⟩
  refine wpAny_Call_method_late hbase hfew hline rfl (thn (ho.run pins s σ H _ I h) fun v s1 ⟨x, H1, I1, r1, ty, q1⟩ => ?_)
  obtain ⟨p, ob, ns, rfl, hp, hd⟩ := ty
  cases r1
  obtain ⟨g1, z1, its, rv, ot, hot, hc, n, hdn⟩ := (show ObjOk X.prog X.w H1 s1.heap p (.frz ob (.tup (ns.map V.int))) from I1.hok p _ hp)
  have eo : ot = ob := Option.some.inj (hot.symm.trans g1)
  subst eo
  refine ⟨"tuple", "tuple.index", PySem.F.plainAttrs_tuple, PySem.F.slot_tuple_index, PySem.F.type_tuple_index, ⟨ot, hot, hc⟩, fun a e => ?_, ?_⟩
  · cases e
    exact ⟨ot, hot, hd⟩
  · have hA := ha.run cpos pins s1 σ H1 _ I1 q1
    rw [hs] at hA ⊢
    refine Calls.callWith_builtin (by show (false || (backTo cpos (starEach es X.env)).any (·.1)) = false; rw [hplain] <;> rfl) (Calls.evalArgs_plain ?_)
    refine thn hA fun us s2 ⟨vs, H2, I2, r2, q2⟩ => ?_
    obtain ⟨p2, ob2, ns2, k, e2, rfl, hp2, hd2, hk, q3⟩ := q2
    cases e2
    obtain ⟨its2, rv2, hl2, _⟩ := I2.tuple (show SqT X.K H2 p (ns2.map V.int) from .inl (.inr ⟨_, hp2⟩))
    obtain ⟨u, rfl, t, rfl⟩ := vals1 r2
    exact PySem.SeqAt.tuple_index_ints hl2 rv2.ints hk ⟨.int _, H2, I2.tok _, ⟨_, rfl⟩, q3⟩
end R65

end

section
set_option Elab.async false
set_option linter.all false
set_option maxRecDepth 100000
set_option maxHeartbeats 1000000
/-! what all readings lean on -/
namespace B65
open PySem PySem.Spec PyProof.Rows L2

/-! ### heaps -/
theorem same_new {H : Hp} {p : Addr} {o : HO} (h : H p = none) : Same H (upd H p o) := fun b u e => by rw [upd_ne (ne_of_none e h)]; exact e
theorem same_mut {H0 H : Hp} {p : Addr} {o : HO} (s : Same H0 H) (h : H0 p = none) : Same H0 (upd H p o) := fun b u e => by rw [upd_ne (ne_of_none e h)]; exact s b u e
theorem same_then {H0 H : Hp} {p : Addr} {o : HO} (s : Same H0 H) (h : H p = none) : Same H0 (upd H p o) := s.trans (same_new h)
theorem same_t {K : PySem.W.Frag} {H H' : Hp} {a : Addr} {xs : List V} (e : Same H H') (h : SqT K H a xs) : SqT K H' a xs := by
  rcases h with (h | ⟨o, h⟩) | h
  · exact .inl (.inl (e _ _ h))
  · exact .inl (.inr ⟨o, e _ _ h⟩)
  · exact .inr h
theorem sqL {K : PySem.W.Frag} {H : Hp} {a : Addr} {xs : List V} (h : H a = some (.lst xs)) : SqL K H a xs := .inl (.inl h)
theorem sqT {K : PySem.W.Frag} {H : Hp} {a : Addr} {xs : List V} (h : H a = some (.tup xs)) : SqT K H a xs := .inl (.inl h)
theorem sz {n : Nat} (h : n ≤ 100000) : n ≤ sizeLine := Nat.le_trans h (by decide)
theorem szl {n : Nat} (h : n < 100000) : n < sizeLine := Nat.lt_of_lt_of_le h (by decide)
/-- all but the lists stands as before -/
def NL (H H' : Hp) : Prop := ∀ b o, H b = some o → (∀ xs, o ≠ .lst xs) → H' b = some o
theorem NL.of {H H' : Hp} (s : Same H H') : NL H H' := fun b o e _ => s b o e
theorem NL.upd {H : Hp} {D : Addr} {xs : List V} {o : HO} (h : H D = some (.lst xs)) : NL H (upd H D o) := fun b u e n => by
  rw [upd_ne fun z => by
    rw [z, h] at e
    exact n xs (Option.some.inj e).symm]
  exact e
theorem NL.tup {H H' : Hp} (s : NL H H') {t : Addr} {xs : List V} (h : H t = some (.tup xs)) : H' t = some (.tup xs) := s _ _ h fun _ z => by cases z
theorem upd_at {H : Hp} {a b : Addr} {o u : HO} (h : H b = some u) (n : b ≠ a) : upd H a o b = some u := by rw [upd_ne n]; exact h

/-! ### flat values in a list of texts -/
theorem inV_str (d : Str) (l : List Str) : inV (.str d) (l.map V.str) = l.any (fun y => y == d) := by
  unfold inV
  rw [List.any_map]
  rfl
theorem flat_strs (l : List Str) : (l.map V.str).all flatV = true := by
  rw [List.all_map]
  exact List.all_eq_true.mpr fun _ _ => rfl
theorem inV_int (d : Int) (l : List Int) : inV (.int d) (l.map V.int) = l.any (fun y => y == d) := by
  unfold inV
  rw [List.any_map]
  rfl
theorem flat_ints (l : List Int) : (l.map V.int).all flatV = true := by
  rw [List.all_map]
  exact List.all_eq_true.mpr fun _ _ => rfl
theorem bl_str {a b : Str} : decide (V.str a = V.str b) = decide (a = b) := by
  by_cases h : a = b
  · rw [h]; simp
  · rw [decide_eq_false h, decide_eq_false (fun e => h (V.str.inj e))]
theorem bl_int {a b : Int} : decide (V.int a = V.int b) = decide (a = b) := by
  by_cases h : a = b
  · rw [h]; simp
  · rw [decide_eq_false h, decide_eq_false (fun e => h (V.int.inj e))]

/-! ### a comprehension by a state over its turns -/
theorem lc_st {J : It} {n : Nat} {G : Hp → Prop} {Y : Nat → Hp → V → Hp → Prop} (w : Walk J n G Y) {g : TG} {tt : TT} {te : TE} {vs : List Nat} {σ : L2.St} {H1 : Hp} {D : Addr} {Qd : Hp → Prop} (Pv : Nat → List V → Hp → Prop)
    (h0 : Pv 0 [] (upd H1 D (.lst []))) (hst : ∀ i acc a1 a2 H, H D = some (.lst a1) → Pv i acc H → Pv i acc (upd H D (.lst a2))) (hG : ∀ i acc H, i ≤ n → Pv i acc H → G H) (hz : ∀ i acc H, i < n → Pv i acc H → acc.length < sizeLine)
    (hs : ∀ i x acc H H', i < n → H D = some (.lst acc) → Pv i acc H → Y i H x H' → ∀ (Qy : V → Hp → Prop) (Qn : Hp → Prop), (∀ y H4, H4 D = some (.lst acc) → Pv (i + 1) (acc ++ [y]) H4 → Qy y H4) →
      (∀ H3, H3 D = some (.lst acc) → Pv (i + 1) acc H3 → Qn H3) → g x (wipe σ vs) H' fun σ2 H2 => wipe σ2 vs = wipe σ vs ∧ tt σ2 H2 fun b H3 => if b = true then te σ2 H3 Qy else Qn H3)
    (hd : ∀ acc H, H D = some (.lst acc) → Pv n acc H → Qd H) :
    ∃ W : Nat → Nat → Hp → Prop, (∃ m, W 0 m (upd H1 D (.lst []))) ∧ ∀ i m H, W i m H →
      (J.stop i H ∧ Qd H) ∨ (J.go i H ∧ ∃ Nx : Hp → Prop, (∀ H', Nx H' → ∃ m', m' < m ∧ W (i + 1) m' H') ∧ ∀ x H', J.yld i H x H' → g x (wipe σ vs) H' fun σ2 H2 => wipe σ2 vs = wipe σ vs ∧ tt σ2 H2 fun b H3 =>
        if b = true then te σ2 H3 fun y H4 => ∃ acc, H4 D = some (.lst acc) ∧ acc.length < sizeLine ∧ Nx (upd H4 D (.lst (acc ++ [y]))) else Nx H3) := by
  refine lc_it w (fun i H => ∃ acc, H D = some (.lst acc) ∧ Pv i acc H) ⟨[], upd_same, h0⟩ (fun i H hi ⟨acc, _, p⟩ => hG i acc H hi p) (fun i x H H' hi ⟨acc, e, p⟩ y => ?_) (fun H ⟨acc, e, p⟩ => hd acc H e p)
  exact hs i x acc H H' hi e p y _ _ (fun y H4 e4 p4 => ⟨acc, e4, hz i acc H hi p, acc ++ [y], upd_same, hst _ _ _ _ _ e4 p4⟩) fun H3 e3 p3 => ⟨acc, e3, p3⟩
theorem walk_enumT {K : PySem.W.Frag} {a : Addr} {xs : List V} : Walk (R65.IteT K a) xs.length (fun H => SqT K H a xs) (YPair (fun i => some (.int (i : Nat))) (fun i => xs[i]?)) := by
  refine ⟨fun i _ hi q => ⟨xs, xs[i], q, by simp [hi]⟩, fun _ q => ⟨xs, q, Nat.le_refl _⟩, fun i H v H' _ q y => ?_⟩
  obtain ⟨T, x, h1, h2, h3, h4⟩ := y
  exact ⟨T, .int (i : Nat), x, h1, h2, h3, rfl, h4 xs q⟩
theorem walk_zipT {K : PySem.W.Frag} {a b : Addr} {xs ys : List V} {n : Nat} (hn : n = min xs.length ys.length) : Walk (RZ.ItzT K a b) n (fun H => SqT K H a xs ∧ SqT K H b ys) (YPair (fun i => xs[i]?) (fun i => ys[i]?)) := by
  subst hn
  refine ⟨fun i _ hi q => ?_, fun _ q => ⟨xs, ys, q.1, q.2, by omega⟩, fun i H v H' _ q y => ?_⟩
  · have h1 : i < xs.length := by omega
    have h2 : i < ys.length := by omega
    exact ⟨xs, ys, xs[i], ys[i], q.1, q.2, by simp [h1], by simp [h2]⟩
  · obtain ⟨T, x, z, h1, h2, h3, h4, h5⟩ := y
    exact ⟨T, x, z, h1, h2, h3, h4 xs q.1, h5 ys q.2⟩
theorem walk_rng {n : Nat} : Walk (Itr 0 n) n (fun _ => True) (YFn fun i => .int ((i : Nat) : Int)) :=
  walk_range.mono (fun _ _ => trivial) fun i H x H' _ _ y => ⟨y.1, y.2.trans (congrArg V.int (Int.zero_add _))⟩
/-- a walk's place is a list's -/
theorem nth {xs : List V} {i : Nat} (h : i < xs.length) : ∃ x, xs[i]? = some x := ⟨xs[i], List.getElem?_eq_getElem h⟩

/-! ### rows, programs -/
structure Row where
  mark : Str
  deed : Str
  val : V
def Row.vs (r : Row) : List V := [.str r.mark, .str r.deed, r.val]
/-- a program stands at p -/
def ProgAt (H : Hp) (p : Addr) (rs : List Row) : Prop := ∃ as : List Addr, H p = some (.tup (as.map V.ref)) ∧ as.length = rs.length ∧ ∀ (i : Nat) (r : Row), rs[i]? = some r → ∃ a, as[i]? = some a ∧ H a = some (.tup r.vs)
theorem ProgAt.same {H H' : Hp} {p : Addr} {rs : List Row} (s : Same H H') (h : ProgAt H p rs) : ProgAt H' p rs := by
  obtain ⟨as, h1, h2, h3⟩ := h
  exact ⟨as, s _ _ h1, h2, fun i r e => let ⟨a, e1, e2⟩ := h3 i r e; ⟨a, e1, s _ _ e2⟩⟩
/-- one row read -/
theorem ProgAt.row {H : Hp} {p : Addr} {rs : List Row} (h : ProgAt H p rs) {i : Nat} {r : Row} (e : rs[i]? = some r) : ∃ xs a, H p = some (.tup xs) ∧ atI xs (i : Int) = some (.ref a) ∧ H a = some (.tup r.vs) := by
  obtain ⟨as, h1, h2, h3⟩ := h
  obtain ⟨a, e1, e2⟩ := h3 i r e
  exact ⟨_, a, h1, atI_nat (by rw [List.getElem?_map, e1]; rfl), e2⟩
theorem ProgAt.walk {H : Hp} {p : Addr} {rs : List Row} (h : ProgAt H p rs) : ∃ xs, H p = some (.tup xs) ∧ xs.length = rs.length ∧ ∀ (i : Nat) (x : V), xs[i]? = some x → ∃ r a, rs[i]? = some r ∧ x = .ref a ∧ H a = some (.tup r.vs) := by
  obtain ⟨as, h1, h2, h3⟩ := h
  refine ⟨_, h1, by rw [List.length_map, h2], fun i x e => ?_⟩
  rw [List.getElem?_map] at e
  cases q : as[i]? with
  | none => rw [q] at e; cases e
  | some a =>
    rw [q] at e
    have hi : i < rs.length := by rw [← h2]; exact (List.getElem?_eq_some_iff.mp q).1
    have er : rs[i]? = some rs[i] := List.getElem?_eq_getElem hi
    obtain ⟨a', e1, e2⟩ := h3 i _ er
    rw [q] at e1
    have ea : a' = a := (Option.some.inj e1).symm
    rw [ea] at e2
    exact ⟨_, a, er, (Option.some.inj e).symm, e2⟩
theorem at0 {r : Row} : atI r.vs 0 = some (.str r.mark) := rfl
theorem at1 {r : Row} : atI r.vs 1 = some (.str r.deed) := rfl
theorem at2 {r : Row} : atI r.vs 2 = some r.val := rfl
end B65

end

section
set_option Elab.async false
set_option linter.all false
set_option maxRecDepth 100000
set_option maxHeartbeats 1000000
namespace B65
open PySem PySem.Spec PyProof.Rows L2
section
variable {P : Program} {w : World} {K : PySem.W.Frag} {mg : Str → Option Value} {base : Heap}
def sPLAIN : List Str := ["half", "twice", "up", "down", "tox", "toa", "rest", "idle", "wait"]
def sTHREE : List Str := ["get", "put", "add", "sub", "mask", "flip", "getx", "putx", "idle", "go", "door", "eye"]
def sFOUR : List Str := ["lay", "take", "at"]
def sIF : List Str := ["ifz", "ifn", "ifc", "ifd"]
def sSAME : List Str := ["put", "putx", "lay", "rest", "idle", "go", "ifz", "ifn", "ifc", "ifd", "door", "wait"]
theorem Txt.s_PLAIN (T : Txt K mg) (H : Hp) : SqT K H (He.ga K "PLAIN_DEEDS") (sPLAIN.map V.str) := T.t_PLAIN_DEEDS H
theorem Txt.s_THREE (T : Txt K mg) (H : Hp) : SqT K H (He.ga K "THREE_BEATS") (sTHREE.map V.str) := T.t_THREE_BEATS H
theorem Txt.s_FOUR (T : Txt K mg) (H : Hp) : SqT K H (He.ga K "FOUR_BEATS") (sFOUR.map V.str) := T.t_FOUR_BEATS H
theorem Txt.s_IF (T : Txt K mg) (H : Hp) : SqT K H (He.ga K "IF_DEEDS") (sIF.map V.str) := T.t_IF_DEEDS H
theorem Txt.s_SAME (T : Txt K mg) (H : Hp) : SqT K H (He.ga K "SAME_FLAG") (sSAME.map V.str) := T.t_SAME_FLAG H
def dm (l : List Str) (d : Str) : Bool := l.any (fun y => y == d)
/-- how many bytes long, how many beats -/
def bytesOf (d : Str) : Int := if dm sPLAIN d = true then 1 else if d = "data" then 1 else 2
def beatsOf (d : Str) : Int := if d = "data" then 0 else if dm sFOUR d = true then 4 else if dm sTHREE d = true then 3 else 2
def sp_byte_count : Sp := fun vs H Q _ => ∃ d : Str, vs = [.str d] ∧ Q (.int (bytesOf d)) H
theorem sc_byte_count : FnScope ["deed"] ["deed"] (defScope (topS 8)) := ⟨rfl, rfl, rfl, by decide +kernel, rfl, by decide +kernel, by decide +kernel⟩
theorem ok_byte_count (T : Txt K mg) : Ok P w K mg base 1 "byte_count" ["deed"] (sp_byte_count) := by
  obtain ⟨fd, F⟩ := T.d_byte_count
  refine ⟨fd, F.ok sc_byte_count (fun vs H Q E h => ?_) (fun cdv A outer s H vs Q E hr h => ?_), F.kp, F.bindsN fun _ _ _ _ _ _ us hl => match us, hl with | [_], _ => rfl⟩
  · obtain ⟨d, rfl, _⟩ := h
    rfl
  · obtain ⟨d, rfl, q⟩ := h
    have hu := hu_of hr
    refine ⟨_, PSs.nox (pss_cons (ps_if (PW.pt (pw_or (pt_cmpR op_in_seq (pv 0) (pe_glob (v := .ref _) (by rfl) T.g_PLAIN_DEEDS rfl) (by rfl)) (pw_or1 (pt_cmpR op_eq (pv 0) pe_str (nomark _)))))
      (pss_one (ps_ret pe_int))
      pss_nil)
      (pss_one (ps_ret pe_int))), ?_⟩
    refine ⟨_, rfl, _, _, rfl, .inr (T.s_PLAIN H), rfl, flat_strs _, _, rfl, ?_⟩
    rw [show (if false = true then !inV (V.str d) (sPLAIN.map V.str) else inV (V.str d) (sPLAIN.map V.str)) = dm sPLAIN d from inV_str d sPLAIN]
    unfold bytesOf at q
    refine ite2 (fun e => ?_) (fun e => ?_)
    · rw [if_pos e] at q
      exact iteT q
    · rw [if_neg e] at q
      refine ⟨_, rfl, rfl, _, rfl, ite2 (fun e2 => ?_) (fun e2 => ?_)⟩
      · rw [if_pos (V.str.inj (of_decide_eq_true e2))] at q
        exact q
      · rw [if_neg (fun z => e2 (by rw [z]; exact decide_eq_true rfl))] at q
        exact q
def sp_is_table : Sp := fun vs H Q _ => ∃ (a : Addr) (r : Row), vs = [.ref a] ∧ H a = some (.tup r.vs) ∧ Q (.bl (decide (r.deed = "data"))) H
theorem sc_is_table : FnScope ["row"] ["row"] (defScope (topS 11)) := ⟨rfl, rfl, rfl, by decide +kernel, rfl, by decide +kernel, by decide +kernel⟩
theorem ok_is_table (T : Txt K mg) : Ok P w K mg base 1 "is_table" ["row"] (sp_is_table) := by
  obtain ⟨fd, F⟩ := T.d_is_table
  refine ⟨fd, F.ok sc_is_table (fun vs H Q E h => ?_) (fun cdv A outer s H vs Q E hr h => ?_), F.kp, F.bindsN fun _ _ _ _ _ _ us hl => match us, hl with | [_], _ => rfl⟩
  · obtain ⟨a, r, rfl, _⟩ := h
    rfl
  · obtain ⟨a, r, rfl, ha, q⟩ := h
    have hu := hu_of hr
    refine ⟨_, PSs.nox (pss_one (ps_ret (pe_cmpR op_eq (pe_ix ix_tup (pv 0) pe_int (fun _ _ => rfl)) pe_str (nomark _)))), ?_⟩
    refine ⟨_, rfl, _, _, _, _, rfl, rfl, sqT ha, at1, rfl, ?_⟩
    rw [bl_str]
    exact q
def sp_is_wait : Sp := fun vs H Q _ => ∃ (p : Addr) (rs : List Row) (n : Nat) (r : Row), vs = [.ref p, .int (n : Int)] ∧ ProgAt H p rs ∧ rs[n]? = some r ∧ Q (.bl (decide (r.deed = "wait"))) H
theorem sc_is_wait : FnScope ["program", "row"] ["program", "row"] (defScope (topS 39)) := ⟨rfl, rfl, rfl, by decide +kernel, rfl, by decide +kernel, by decide +kernel⟩
theorem ok_is_wait (T : Txt K mg) : Ok P w K mg base 1 "is_wait" ["program", "row"] (sp_is_wait) := by
  obtain ⟨fd, F⟩ := T.d_is_wait
  refine ⟨fd, F.ok sc_is_wait (fun vs H Q E h => ?_) (fun cdv A outer s H vs Q E hr h => ?_), F.kp, F.bindsN fun _ _ _ _ _ _ us hl => match us, hl with | [_, _], _ => rfl⟩
  · obtain ⟨p, rs, n, r, rfl, _⟩ := h
    rfl
  · obtain ⟨p, rs, n, r, rfl, hp, hr0, q⟩ := h
    have hu := hu_of hr
    refine ⟨_, PSs.nox (pss_one (ps_ret (pe_cmpR op_eq (pe_ix ix_tup (pe_ix ix_tup (pv 0) (pv 1) (fun _ _ => rfl)) pe_int (fun _ _ => rfl)) pe_str (nomark _)))), ?_⟩
    obtain ⟨xs, a, h1, h2, h3⟩ := hp.row hr0
    refine ⟨_, rfl, _, rfl, _, _, _, _, rfl, rfl, sqT h1, h2, _, _, _, _, rfl, rfl, sqT h3, at1, rfl, ?_⟩
    rw [bl_str]
    exact q
/-- the first place of a text in a list -/
def ixOf (m : Str) : List Str → Nat
  | [] => 0
  | x :: r => if x = m then 0 else ixOf m r + 1
theorem ixOf_get {m : Str} : ∀ {l : List Str}, m ∈ l → l[ixOf m l]? = some m
  | [], h => by cases h
  | x :: r, h => by
    unfold ixOf
    by_cases e : x = m
    · rw [if_pos e, e]; rfl
    · rw [if_neg e]
      have h2 : m ∈ r := (List.mem_cons.mp h).resolve_left (fun z => e z.symm)
      simpa using ixOf_get h2
theorem ixOf_lt {m : Str} {l : List Str} (h : m ∈ l) : ixOf m l < l.length := (List.getElem?_eq_some_iff.mp (ixOf_get h)).1
theorem ixOf_no {m : Str} : ∀ {l : List Str} {i : Nat}, i < ixOf m l → l[i]? ≠ some m
  | [], i, h => by simp [ixOf] at h
  | x :: r, i, h => by
    unfold ixOf at h
    by_cases e : x = m
    · rw [if_pos e] at h; exact absurd h (Nat.not_lt_zero _)
    · cases i with
      | zero => intro z; exact e (Option.some.inj z)
      | succ i => intro z; exact ixOf_no (m := m) (l := r) (i := i) (Nat.lt_of_succ_lt_succ (by rw [if_neg e] at h; exact h)) (by simpa using z)
theorem ixOf_le {m : Str} {l : List Str} {i : Nat} (h : l[i]? = some m) : ixOf m l ≤ i := Nat.le_of_not_lt fun z => ixOf_no z h
theorem map_str_get {l : List Str} {i : Nat} {z : V} (h : (l.map V.str)[i]? = some z) : ∃ s, l[i]? = some s ∧ z = .str s := by
  rw [List.getElem?_map] at h
  cases q : l[i]? with
  | none => rw [q] at h; cases h
  | some s => rw [q] at h; exact ⟨s, rfl, (Option.some.inj h).symm⟩
theorem ix_facts {m : Str} {l : List Str} (h : m ∈ l) : (l.map V.str)[ixOf m l]? = some (.str m) ∧ eqV (.str m) (.str m) = true ∧ ∀ (i : Nat) (z : V), i < ixOf m l → (l.map V.str)[i]? = some z → eqV z (.str m) = false := by
  refine ⟨by rw [List.getElem?_map, ixOf_get h]; rfl, by simp [eqV], fun i z hi hz => ?_⟩
  obtain ⟨s, e1, rfl⟩ := map_str_get hz
  have n : s ≠ m := fun e => ixOf_no hi (by rw [e1, e])
  simp [eqV, n]
theorem take_succ_map {α β : Type} (f : α → β) {l : List α} {i : Nat} {x : α} (h : l[i]? = some x) : (l.take (i + 1)).map f = (l.take i).map f ++ [f x] := by
  rw [List.take_add_one, h, List.map_append]
  rfl
theorem take_all {α : Type} (l : List α) : l.take l.length = l := List.take_length
def marks (rs : List Row) : List Str := rs.map Row.mark
theorem map_str_len (l : List Str) : (l.map V.str).length = l.length := List.length_map ..
def sp_beat_count : Sp := fun vs H Q _ => ∃ d : Str, vs = [.str d] ∧ Q (.int (beatsOf d)) H
theorem sc_beat_count : FnScope ["deed"] ["deed"] (defScope (topS 9)) := ⟨rfl, rfl, rfl, by decide +kernel, rfl, by decide +kernel, by decide +kernel⟩
theorem ok_beat_count (T : Txt K mg) : Ok P w K mg base 1 "beat_count" ["deed"] (sp_beat_count) := by
  obtain ⟨fd, F⟩ := T.d_beat_count
  refine ⟨fd, F.ok sc_beat_count (fun vs H Q E h => ?_) (fun cdv A outer s H vs Q E hr h => ?_), F.kp, F.bindsN fun _ _ _ _ _ _ us hl => match us, hl with | [_], _ => rfl⟩
  · obtain ⟨d, rfl, _⟩ := h
    rfl
  · obtain ⟨d, rfl, q⟩ := h
    have hu := hu_of hr
    refine ⟨_, PSs.nox (pss_cons (ps_if (pt_cmpR op_eq (pv 0) pe_str (nomark _))
      (pss_one (ps_ret pe_int))
      pss_nil)
      (pss_cons (ps_if (pt_cmpR op_in_seq (pv 0) (pe_glob (v := .ref _) (by rfl) T.g_FOUR_BEATS rfl) (by rfl))
      (pss_one (ps_ret pe_int))
      pss_nil)
      (pss_cons (ps_if (pt_cmpR op_in_seq (pv 0) (pe_glob (v := .ref _) (by rfl) T.g_THREE_BEATS rfl) (by rfl))
      (pss_one (ps_ret pe_int))
      pss_nil)
      (pss_one (ps_ret pe_int))))), ?_⟩
    unfold beatsOf at q
    refine ⟨_, rfl, rfl, _, rfl, ?_⟩
    rw [bl_str]
    refine ite2 (fun e => ?_) (fun e => ?_)
    · rw [if_pos (of_decide_eq_true e)] at q
      exact q
    · rw [if_neg (fun z => e (decide_eq_true z))] at q
      refine ⟨_, rfl, _, _, rfl, .inr (T.s_FOUR H), rfl, flat_strs _, _, rfl, ?_⟩
      rw [show (if false = true then !inV (V.str d) (sFOUR.map V.str) else inV (V.str d) (sFOUR.map V.str)) = dm sFOUR d from inV_str d sFOUR]
      refine ite2 (fun e => ?_) (fun e => ?_)
      · rw [if_pos e] at q
        exact q
      · rw [if_neg e] at q
        refine ⟨_, rfl, _, _, rfl, .inr (T.s_THREE H), rfl, flat_strs _, _, rfl, ?_⟩
        rw [show (if false = true then !inV (V.str d) (sTHREE.map V.str) else inV (V.str d) (sTHREE.map V.str)) = dm sTHREE d from inV_str d sTHREE]
        refine ite2 (fun e => ?_) (fun e => ?_)
        · rw [if_pos e] at q
          exact q
        · rw [if_neg e] at q
          exact q
def sp_row_of : Sp := fun vs H Q _ => ∃ (p : Addr) (rs : List Row) (m : Str), vs = [.ref p, .str m] ∧ ProgAt H p rs ∧ m ∈ marks rs ∧ rs.length ≤ 120 ∧ ∀ H', Same H H' → Q (.int (ixOf m (marks rs) : Nat)) H'
theorem sc_row_of : FnScope ["program", "mark", "own", "deed", "value"] ["program", "mark"] (defScope (topS 12)) := ⟨rfl, rfl, rfl, by decide +kernel, rfl, by decide +kernel, by decide +kernel⟩
theorem ok_row_of (T : Txt K mg) : Ok P w K mg base 1 "row_of" ["program", "mark"] (sp_row_of) := by
  obtain ⟨fd, F⟩ := T.d_row_of
  refine ⟨fd, F.ok sc_row_of (fun vs H Q E h => ?_) (fun cdv A outer s H vs Q E hr h => ?_), F.kp, F.bindsN fun _ _ _ _ _ _ us hl => match us, hl with | [_, _], _ => rfl⟩
  · obtain ⟨p, rs, m, rfl, _⟩ := h
    rfl
  · obtain ⟨p, rs, m, rfl, hp, hm, hl, q⟩ := h
    have hu := hu_of hr
    refine ⟨_, PSs.nox (pss_one (ps_ret (pe_bm PySem.F.plainAttrs_list PySem.F.slot_list_index PySem.F.type_list_index mt_index (pe_lc (own := [("own", 2), ("deed", 3), ("value", 4)]) rfl sc_row_of.nd (pi_tup (pv 0)) (blkOk_by (N := ["program", "mark", "own", "deed", "value"]) (sc := defScope (topS 12)) (by decide +kernel)) (fun _ _ _ _ _ => (R65.pg_tupK (K := K) (n := 3) rfl rfl (pgs_cons (pg_name (i := 2) sc_row_of.nd rfl (by first | exact Or.inl rfl | exact Or.inr rfl)) (pgs_cons (pg_name (i := 3) sc_row_of.nd rfl (by first | exact Or.inl rfl | exact Or.inr rfl)) (pgs_cons (pg_name (i := 4) sc_row_of.nd rfl (by first | exact Or.inl rfl | exact Or.inr rfl)) pgs_nil))))) (fun _ _ _ _ _ => pts_nil) (fun _ _ _ _ _ => (pv 2))) (pa_cons (pv 1) pa_nil)))), ?_⟩
    obtain ⟨xs, h1, h2, h3⟩ := hp.walk
    refine ⟨_, rfl, p, rfl, ⟨_, sqT h1⟩, fun D nD => ?_⟩
    refine lc_st (walk_tup (K := K) (a := p) (xs := xs)) (fun i acc H' => Same H H' ∧ acc = ((marks rs).take i).map V.str) ⟨same_new nD, rfl⟩ (fun i acc _ _ H' _ ⟨s, e⟩ => ⟨same_mut s nD, e⟩) (fun i acc H' _ ⟨s, e⟩ => sqT (s _ _ h1)) (fun i acc H' hi ⟨s, e⟩ => ?_) (fun i x acc H1 H2 hi eD ⟨s, e⟩ ⟨eH, ex⟩ Qy Qn ky kn => ?_) (fun acc H' eD ⟨s, e⟩ => ?_)
    · rw [e, List.length_map, List.length_take]
      exact szl (by omega)
    · subst eH
      obtain ⟨r, a, e1, rfl, ha⟩ := h3 i x ex
      refine ⟨a, _, rfl, sqT (s _ _ ha), rfl, _, _, rfl, _, _, rfl, _, _, rfl, rfl, rfl, _, rfl, ky _ _ eD ⟨s, ?_⟩⟩
      rw [e]
      exact (take_succ_map V.str (by unfold marks; rw [List.getElem?_map, e1]; rfl)).symm
    · have ea : acc = (marks rs).map V.str := by
        rw [e, List.take_of_length_le]
        rw [h2]
        unfold marks
        rw [List.length_map]
        exact Nat.le_refl _
      subst ea
      obtain ⟨f1, f2, f3⟩ := ix_facts hm
      exact ⟨.inl ⟨rfl, _, sqL eD⟩, _, rfl, D, _, _, _, _, rfl, rfl, sqL eD, rfl, flat_strs _, f1, f2, f3, q _ s⟩
def longOf (rs : List Row) : Int := (rs.map fun r => bytesOf r.deed).sum
def adrOf (base : Int) (rs : List Row) (i : Nat) : Int := base + longOf (rs.take i)
theorem longOf_take {rs : List Row} {i : Nat} {r : Row} (h : rs[i]? = some r) : longOf (rs.take (i + 1)) = longOf (rs.take i) + bytesOf r.deed := by
  unfold longOf
  rw [take_succ_map (fun r => bytesOf r.deed) h, List.sum_append]
  simp
theorem adrOf_succ {base : Int} {rs : List Row} {i : Nat} {r : Row} (h : rs[i]? = some r) : adrOf base rs (i + 1) = adrOf base rs i + bytesOf r.deed := by
  unfold adrOf
  rw [longOf_take h]
  omega
def adrs (base : Int) (rs : List Row) : List Int := (List.range rs.length).map (adrOf base rs)
theorem map_int_len (l : List Int) : (l.map V.int).length = l.length := List.length_map ..
def sp_long_of : Sp := fun vs H Q _ => ∃ (p : Addr) (rs : List Row), vs = [.ref p] ∧ ProgAt H p rs ∧ rs.length ≤ 120 ∧ ∀ H', Same H H' → Q (.int (longOf rs)) H'
theorem sc_long_of : FnScope ["program", "row"] ["program"] (defScope (topS 17)) := ⟨rfl, rfl, rfl, by decide +kernel, rfl, by decide +kernel, by decide +kernel⟩
theorem ok_long_of (T : Txt K mg) : Ok P w K mg base 2 "long_of" ["program"] (sp_long_of) := by
  obtain ⟨fd, F⟩ := T.d_long_of
  obtain ⟨fd_byte_count, G_byte_count, kp_byte_count, b_byte_count⟩ := ok_byte_count (P := P) (w := w) (base := base) T
  refine ⟨fd, F.ok sc_long_of (fun vs H Q E h => ?_) (fun cdv A outer s H vs Q E hr h => ?_), F.kp, F.bindsN fun _ _ _ _ _ _ us hl => match us, hl with | [_], _ => rfl⟩
  · obtain ⟨p, rs, rfl, _⟩ := h
    rfl
  · obtain ⟨p, rs, rfl, hp, hl, q⟩ := h
    have hu := hu_of hr
    refine ⟨_, PSs.nox (pss_one (ps_ret (pe_callB (cr_sum rfl) (by rfl) T.z_sum (by decide +kernel) (pa_cons (pe_lc (own := [("row", 1)]) rfl sc_long_of.nd (pi_tup (pv 0)) (blkOk_by (N := ["program", "row"]) (sc := defScope (topS 17)) (by decide +kernel)) (fun _ _ _ _ _ => (pg_name (i := 1) sc_long_of.nd rfl (by first | exact Or.inl rfl | exact Or.inr rfl))) (fun _ _ _ _ _ => pts_nil) (fun _ _ _ _ _ => (pe_call G_byte_count hr (by rfl) T.g_byte_count kp_byte_count b_byte_count .nil pass0 (pa_cons (pe_ix (r := rIxT K) ix_tup (pv 1) pe_int (fun _ _ => rfl)) pa_nil)))) pa_nil)))), ?_⟩
    obtain ⟨xs, h1, h2, h3⟩ := hp.walk
    refine ⟨_, rfl, p, rfl, ⟨_, sqT h1⟩, fun D nD => ?_⟩
    refine lc_st (walk_tup (K := K) (a := p) (xs := xs)) (fun i acc H' => Same H H' ∧ acc = ((rs.take i).map fun r => bytesOf r.deed).map V.int) ⟨same_new nD, rfl⟩ (fun i acc _ _ H' _ ⟨s, e⟩ => ⟨same_mut s nD, e⟩) (fun i acc H' _ ⟨s, e⟩ => sqT (s _ _ h1)) (fun i acc H' hi ⟨s, e⟩ => ?_) (fun i x acc H1 H2 hi eD ⟨s, e⟩ ⟨eH, ex⟩ Qy Qn ky kn => ?_) (fun acc H' eD ⟨s, e⟩ => ?_)
    · rw [e, List.length_map, List.length_map, List.length_take]
      exact szl (by omega)
    · subst eH
      obtain ⟨r, a, e1, rfl, ha⟩ := h3 i x ex
      refine ⟨rfl, _, rfl, _, _, _, _, rfl, rfl, sqT (s _ _ ha), at1, _, rfl, ky _ _ eD ⟨s, ?_⟩⟩
      rw [e]
      rw [take_succ_map (fun r => bytesOf r.deed) e1, List.map_append]
      rfl
    · refine ⟨D, (rs.map fun (r : Row) => bytesOf r.deed), rfl, sqL ?_, q _ s⟩
      rw [eD, e, h2, take_all]
def sp_want_room : Sp := fun vs H Q _ => ∃ (p : Addr) (rs : List Row) (b : Int), vs = [.ref p, .int b] ∧ ProgAt H p rs ∧ rs.length ≤ 120 ∧ b + longOf rs ≤ 256 ∧ ∀ H', Same H H' → Q .non H'
theorem sc_want_room : FnScope ["program", "base"] ["program", "base"] (defScope (topS 18)) := ⟨rfl, rfl, rfl, by decide +kernel, rfl, by decide +kernel, by decide +kernel⟩
theorem ok_want_room (T : Txt K mg) : Ok P w K mg base 3 "want_room" ["program", "base"] (sp_want_room) := by
  obtain ⟨fd, F⟩ := T.d_want_room
  obtain ⟨fd_long_of, G_long_of, kp_long_of, b_long_of⟩ := ok_long_of (P := P) (w := w) (base := base) T
  obtain ⟨tROOM, hROOM⟩ := T.n_ROOM
  refine ⟨fd, F.ok sc_want_room (fun vs H Q E h => ?_) (fun cdv A outer s H vs Q E hr h => ?_), F.kp, F.bindsN fun _ _ _ _ _ _ us hl => match us, hl with | [_, _], _ => rfl⟩
  · obtain ⟨p, rs, b, rfl, _⟩ := h
    rfl
  · obtain ⟨p, rs, b, rfl, hp, hl, hb, q⟩ := h
    have hu := hu_of hr
    refine ⟨_, PSs.nox (pss_one (ps_if (pt_cmpR op_gt (pe_op op_add (pv 1) (pe_call G_long_of hr (by rfl) T.g_long_of kp_long_of b_long_of .nil pass0 (pa_cons (pv 0) pa_nil))) (pe_glob (v := .int 256) (by rfl) hROOM ⟨_, rfl⟩) (nomark _))
      (pss_one ps_never)
      pss_nil)), ?_⟩
    refine ⟨_, rfl, _, rfl, p, rs, rfl, hp, hl, fun H1 s1 => ⟨_, _, rfl, rfl, _, _, rfl, rfl, _, rfl, ite2 (fun e => ?_) (fun e => q _ s1)⟩⟩
    exact absurd (of_decide_eq_true e) (by omega)
def sp_addresses : Sp := fun vs H Q _ => ∃ (p : Addr) (rs : List Row) (b : Int), vs = [.ref p, .int b] ∧ ProgAt H p rs ∧ rs.length ≤ 120 ∧ b + longOf rs ≤ 256 ∧ ∀ H' l, Same H H' → H' l = some (.lst ((adrs b rs).map V.int)) → Q (.ref l) H'
theorem sc_addresses : FnScope ["program", "base", "found", "row"] ["program", "base"] (defScope (topS 19)) := ⟨rfl, rfl, rfl, by decide +kernel, rfl, by decide +kernel, by decide +kernel⟩
theorem ok_addresses (T : Txt K mg) : Ok P w K mg base 4 "addresses" ["program", "base"] (sp_addresses) := by
  obtain ⟨fd, F⟩ := T.d_addresses
  obtain ⟨fd_want_room, G_want_room, kp_want_room, b_want_room⟩ := ok_want_room (P := P) (w := w) (base := base) T
  obtain ⟨fd_byte_count, G_byte_count, kp_byte_count, b_byte_count⟩ := ok_byte_count (P := P) (w := w) (base := base) T
  refine ⟨fd, F.ok sc_addresses (fun vs H Q E h => ?_) (fun cdv A outer s H vs Q E hr h => ?_), F.kp, F.bindsN fun _ _ _ _ _ _ us hl => match us, hl with | [_, _], _ => rfl⟩
  · obtain ⟨p, rs, b, rfl, _⟩ := h
    rfl
  · obtain ⟨p, rs, b, rfl, hp, hl, hb, q⟩ := h
    have hu := hu_of hr
    refine ⟨_, PSs.nox (pss_cons (ps_expr (pe_call G_want_room hr (by rfl) T.g_want_room kp_want_room b_want_room .nil pass0 (pa_cons (pv 0) (pa_cons (pv 1) pa_nil))))
      (pss_cons (ps_set (i := 2) sc_addresses.nd rfl (by first | exact Or.inl rfl | exact Or.inr rfl) (pe_lst pa_nil))
      (pss_cons (ps_for PassesOwn.never rfl (pi_tup (pv 0)) (pg_name (i := 3) sc_addresses.nd rfl (by first | exact Or.inl rfl | exact Or.inr rfl))
      (pss_cons (ps_expr (pe_bm PySem.F.plainAttrs_list PySem.F.slot_list_append PySem.F.type_list_append mt_append (pv 2) (pa_cons (pv 1) pa_nil)))
      (pss_one (ps_aug (i := 1) sc_addresses.nd rfl (by first | exact Or.inl rfl | exact Or.inr rfl) (pe_call G_byte_count (hr.mono (by decide)) (by rfl) T.g_byte_count kp_byte_count b_byte_count .nil pass0 (pa_cons (pe_ix ix_tup (pv 3) pe_int (fun _ _ => rfl)) pa_nil)) ip_add))))
      (pss_one (ps_ret (pv 2)))))), ?_⟩
    refine ⟨_, rfl, _, rfl, p, rs, b, rfl, hp, hl, hb, fun H1 s1 => ⟨Nat.zero_le _, fun l nl => ?_⟩⟩
    obtain ⟨xs, h1, h2, h3⟩ := (hp.same s1).walk
    refine ⟨_, rfl, p, rfl, ⟨_, sqT (same_new nl _ _ h1)⟩, for_it (walk_tup (K := K) (a := p) (xs := xs)) (fun i σ H' => ∃ x, σ = [some (.ref p), some (.int (adrOf b rs i)), some (.ref l), x] ∧ Same H1 H' ∧ H' l = some (.lst (((List.range i).map (adrOf b rs)).map V.int)))
      ⟨none, by rw [show adrOf b rs 0 = b from Int.add_zero b]; rfl, same_new nl, upd_same⟩ (fun i σ H' _ ⟨x, _, s, _⟩ => sqT (s _ _ h1)) ?_ ?_⟩
    · rintro i x σ H2 H' hi ⟨y, rfl, s, el⟩ ⟨rfl, ex⟩
      obtain ⟨r, a, e1, rfl, ha⟩ := h3 i x ex
      refine ⟨_, rfl, .inl ⟨rfl, _, sqL el⟩, _, rfl, l, _, _, rfl, rfl, el, ?_, ?_⟩
      · rw [List.length_map, List.length_map, List.length_range]
        exact szl (by omega)
      · refine ⟨_, rfl, _, rfl, _, _, _, _, rfl, rfl, sqT (upd_at (s _ _ ha) (ne_of_none ha nl)), at1, _, rfl, _, _, rfl, rfl, some (.ref a), ?_, same_mut s nl, ?_⟩
        · rw [adrOf_succ e1]
          rfl
        · rw [upd_same, List.range_succ, List.map_append, List.map_append]
          rfl
    · rintro σ H' ⟨y, rfl, s, el⟩
      refine ⟨_, rfl, q H' l (s1.trans s) ?_⟩
      rw [el, h2]
      rfl
def cross (a b : Int) : Int := if a / 32 = b / 32 then 0 else 1
def sp_is_crossed : Sp := fun vs H Q _ => ∃ a b : Int, vs = [.int a, .int b] ∧ Q (.int (cross a b)) H
theorem sc_is_crossed : FnScope ["one", "other"] ["one", "other"] (defScope (topS 20)) := ⟨rfl, rfl, rfl, by decide +kernel, rfl, by decide +kernel, by decide +kernel⟩
theorem ok_is_crossed (T : Txt K mg) : Ok P w K mg base 1 "is_crossed" ["one", "other"] (sp_is_crossed) := by
  obtain ⟨fd, F⟩ := T.d_is_crossed
  obtain ⟨tPAGE, hPAGE⟩ := T.n_PAGE
  refine ⟨fd, F.ok sc_is_crossed (fun vs H Q E h => ?_) (fun cdv A outer s H vs Q E hr h => ?_), F.kp, F.bindsN fun _ _ _ _ _ _ us hl => match us, hl with | [_, _], _ => rfl⟩
  · obtain ⟨a, b, rfl, _⟩ := h
    rfl
  · obtain ⟨a, b, rfl, q⟩ := h
    have hu := hu_of hr
    refine ⟨_, PSs.nox (pss_one (ps_ret (pe_callTy call_int1 (by rfl) T.z_int (by decide +kernel) (pa_cons (pe_cmpR op_ne (pe_op op_fdiv (pv 0) (pe_glob (v := .int 32) (by rfl) hPAGE ⟨_, rfl⟩)) (pe_op op_fdiv (pv 1) (pe_glob (v := .int 32) (by rfl) hPAGE ⟨_, rfl⟩)) (nomark _)) pa_nil)))), ?_⟩
    refine ⟨_, rfl, _, _, rfl, rfl, ⟨by decide, by decide⟩, _, rfl, _, _, rfl, rfl, ⟨by decide, by decide⟩, rfl, .inr ⟨_, rfl, ?_⟩⟩
    unfold cross at q
    rw [bl_int]
    by_cases e : a / 32 = b / 32
    · rw [if_pos e] at q
      rw [decide_eq_true e]
      exact q
    · rw [if_neg e] at q
      rw [decide_eq_false e]
      exact q
end
end B65

end

section
set_option Elab.async false
set_option linter.all false
set_option maxRecDepth 100000
set_option maxHeartbeats 1000000
namespace B65
open PySem PySem.Spec PyProof.Rows L2
section
variable {P : Program} {w : World} {K : PySem.W.Frag} {mg : Str → Option Value} {base : Heap}
/-- what a row must be, g rows being no table rows -/
structure RowOk (rs : List Row) (g : Nat) (n : Nat) (r : Row) : Prop where
  nx : r.deed ≠ "data" → r.deed ≠ "go" → n + 1 < g
  jump : dm sIF r.deed = true ∨ r.deed = "go" → ∃ m, r.val = .str m ∧ m ∈ marks rs ∧ ixOf m (marks rs) < g
  at_ : r.deed = "at" → ∃ m, r.val = .str m ∧ m ∈ marks rs
def tgt (rs : List Row) (r : Row) : Nat := match r.val with
  | .str m => ixOf m (marks rs)
  | _ => 0
theorem tgt_eq {rs : List Row} {r : Row} {m : Str} (h : r.val = .str m) : tgt rs r = ixOf m (marks rs) := by
  unfold tgt
  rw [h]
def SignAt (H : Hp) (b : Int) (rs : List Row) (n : Nat) (r : Row) (v : V) : Prop :=
  (dm sIF r.deed = true → v = .int (cross (adrOf b rs (tgt rs r)) (adrOf b rs (n + 1)))) ∧
  (r.deed = "at" → ∃ t, v = .ref t ∧ H t = some (.tup (((List.range 256).map fun (x : Nat) => cross (adrOf b rs (tgt rs r)) (adrOf b rs (tgt rs r) + (x : Int))).map V.int)))
theorem SignAt.nl {H H' : Hp} {b : Int} {rs : List Row} {n : Nat} {r : Row} {v : V} (s : NL H H') (h : SignAt H b rs n r v) : SignAt H' b rs n r v :=
  ⟨h.1, fun e => let ⟨t, e1, e2⟩ := h.2 e; ⟨t, e1, s.tup e2⟩⟩
theorem adrs_at {b : Int} {rs : List Row} {i : Nat} (h : i < rs.length) : ((adrs b rs).map V.int)[i]? = some (.int (adrOf b rs i)) := by
  unfold adrs
  rw [List.getElem?_map, List.getElem?_map, List.getElem?_range h]
  rfl
theorem mark_lt {rs : List Row} {m : Str} (h : m ∈ marks rs) : ixOf m (marks rs) < rs.length := by
  have q := ixOf_lt h
  unfold marks at q ⊢
  rw [List.length_map] at q
  exact q
theorem not_if_at : dm sIF "at" = false := by decide +kernel
def sp_page_sign : Sp := fun vs H Q _ => ∃ (p pl : Addr) (rs : List Row) (b : Int) (n g : Nat) (r : Row), vs = [.ref p, .ref pl, .int (n : Int)] ∧ ProgAt H p rs ∧ rs.length ≤ 120 ∧ H pl = some (.lst ((adrs b rs).map V.int)) ∧ rs[n]? = some r ∧ RowOk rs g n r ∧ g ≤ rs.length ∧
  ∀ v H', Same H H' → SignAt H' b rs n r v → Q v H'
theorem sc_page_sign : FnScope ["program", "places", "number", "mark", "deed", "value", "place", "x"] ["program", "places", "number"] (defScope (topS 21)) := ⟨rfl, rfl, rfl, by decide +kernel, rfl, by decide +kernel, by decide +kernel⟩
theorem ok_page_sign (T : Txt K mg) : Ok P w K mg base 2 "page_sign" ["program", "places", "number"] (sp_page_sign) := by
  obtain ⟨fd, F⟩ := T.d_page_sign
  obtain ⟨fd_is_crossed, G_is_crossed, kp_is_crossed, b_is_crossed⟩ := ok_is_crossed (P := P) (w := w) (base := base) T
  obtain ⟨fd_row_of, G_row_of, kp_row_of, b_row_of⟩ := ok_row_of (P := P) (w := w) (base := base) T
  obtain ⟨tROOM, hROOM⟩ := T.n_ROOM
  refine ⟨fd, F.ok sc_page_sign (fun vs H Q E h => ?_) (fun cdv A outer s H vs Q E hr h => ?_), F.kp, F.bindsN fun _ _ _ _ _ _ us hl => match us, hl with | [_, _, _], _ => rfl⟩
  · obtain ⟨p, pl, rs, b, n, g, r, rfl, _⟩ := h
    rfl
  · obtain ⟨p, pl, rs, b, n, g, r, rfl, hp, hl, hpl, hn, ok, hg, q⟩ := h
    have hu := hu_of hr
    refine ⟨_, PSs.nox (pss_cons (ps_asg (pe_ix ix_tup (pv 0) (pv 2) (fun _ _ => rfl)) (pg_tup rfl (pgs_cons (pg_name (i := 3) sc_page_sign.nd rfl (by first | exact Or.inl rfl | exact Or.inr rfl)) (pgs_cons (pg_name (i := 4) sc_page_sign.nd rfl (by first | exact Or.inl rfl | exact Or.inr rfl)) (pgs_cons (pg_name (i := 5) sc_page_sign.nd rfl (by first | exact Or.inl rfl | exact Or.inr rfl)) pgs_nil)))))
      (pss_cons (ps_if (pt_cmpR op_in_seq (pv 4) (pe_glob (v := .ref _) (by rfl) T.g_IF_DEEDS rfl) (by rfl))
      (pss_one (ps_ret (pe_call G_is_crossed hr (by rfl) T.g_is_crossed kp_is_crossed b_is_crossed .nil pass0 (pa_cons (pe_ix ix_list (pv 1) (pe_call G_row_of hr (by rfl) T.g_row_of kp_row_of b_row_of .nil pass0 (pa_cons (pv 0) (pa_cons (pv 5) pa_nil))) (fun _ _ => rfl)) (pa_cons (pe_ix ix_list (pv 1) (pe_op op_add (pv 2) pe_int) (fun _ _ => rfl)) pa_nil)))))
      pss_nil)
      (pss_cons (ps_if (pt_cmpR op_eq (pv 4) pe_str (nomark _))
      (pss_cons (ps_set (i := 6) sc_page_sign.nd rfl (by first | exact Or.inl rfl | exact Or.inr rfl) (pe_ix ix_list (pv 1) (pe_call G_row_of hr (by rfl) T.g_row_of kp_row_of b_row_of .nil pass0 (pa_cons (pv 0) (pa_cons (pv 5) pa_nil))) (fun _ _ => rfl)))
      (pss_one (ps_ret (pe_callTy call_tuple_of (by rfl) T.z_tuple (by decide +kernel) (pa_cons (pe_lc (own := [("x", 7)]) rfl sc_page_sign.nd (pi_range1 (by rfl) T.z_range (pa_cons (pe_glob (v := .int 256) (by rfl) hROOM ⟨_, rfl⟩) pa_nil)) (blkOk_by (N := ["program", "places", "number", "mark", "deed", "value", "place", "x"]) (sc := defScope (topS 21)) (by decide +kernel)) (fun _ _ _ _ _ => (pg_name (i := 7) sc_page_sign.nd rfl (by first | exact Or.inl rfl | exact Or.inr rfl))) (fun _ _ _ _ _ => pts_nil) (fun _ _ _ _ _ => (pe_call G_is_crossed hr (by rfl) T.g_is_crossed kp_is_crossed b_is_crossed .nil pass0 (pa_cons (pv 6) (pa_cons (pe_op op_add (pv 6) (pv 7)) pa_nil))))) pa_nil)))))
      pss_nil)
      (pss_one (ps_ret pe_non))))), ?_⟩
    obtain ⟨xs, a, h1, h2, h3⟩ := hp.row hn
    refine ⟨_, rfl, _, rfl, _, _, _, _, rfl, rfl, sqT h1, h2, a, _, rfl, sqT h3, rfl, _, _, rfl, _, _, rfl, _, _, rfl, rfl, ?_⟩
    refine ⟨_, rfl, _, _, rfl, .inr (T.s_IF H), rfl, flat_strs _, _, rfl, ?_⟩
    rw [show (if false = true then !inV (V.str r.deed) (sIF.map V.str) else inV (V.str r.deed) (sIF.map V.str)) = dm sIF r.deed from inV_str r.deed sIF]
    refine ite2 (fun e => ?_) (fun e => ?_)
    · obtain ⟨m, ev, hm, hm2⟩ := ok.jump (.inl e)
      have nd : r.deed ≠ "data" := fun z => by rw [z] at e; exact absurd e (by decide +kernel)
      have ng : r.deed ≠ "go" := fun z => by rw [z] at e; exact absurd e (by decide +kernel)
      have hx := ok.nx nd ng
      refine ⟨_, rfl, _, rfl, _, rfl, p, rs, m, by rw [ev]; rfl, hp, hm, hl, fun H1 s1 => ?_⟩
      refine ⟨pl, _, _, _, rfl, rfl, sqL (s1 _ _ hpl), atI_nat (adrs_at (mark_lt hm)), _, rfl, _, rfl, _, _, rfl, rfl, pl, _, _, _, rfl, rfl, sqL (s1 _ _ hpl), atI_nat (j := n + 1) (adrs_at (by omega)), _, _, rfl, ?_⟩
      refine q _ _ s1 ⟨fun _ => by rw [tgt_eq ev], fun z => ?_⟩
      rw [z, not_if_at] at e
      cases e
    · refine ⟨_, rfl, rfl, _, rfl, ?_⟩
      rw [bl_str]
      refine ite2 (fun e2 => ?_) (fun e2 => ?_)
      · have ea := of_decide_eq_true e2
        obtain ⟨m, ev, hm⟩ := ok.at_ ea
        refine ⟨_, rfl, _, rfl, _, rfl, p, rs, m, by rw [ev]; rfl, hp, hm, hl, fun H1 s1 => ?_⟩
        refine ⟨pl, _, _, _, rfl, rfl, sqL (s1 _ _ hpl), atI_nat (adrs_at (mark_lt hm)), ?_⟩
        refine ⟨256, rfl, by decide, by decide, fun D nD => ?_⟩
        refine lc_st (walk_rng (n := 256)) (fun i acc H' => Same H1 H' ∧ acc = ((List.range i).map fun (x : Nat) => cross (adrOf b rs (ixOf m (marks rs))) (adrOf b rs (ixOf m (marks rs)) + (x : Int))).map V.int) ⟨same_new nD, rfl⟩ (fun i acc _ _ H' _ ⟨s, e⟩ => ⟨same_mut s nD, e⟩) (fun _ _ _ _ _ => trivial) (fun i acc H' hi ⟨s, e⟩ => ?_) (fun i x acc H2 H3 hi eD ⟨s, e⟩ ⟨eH, ex⟩ Qy Qn ky kn => ?_) (fun acc H' eD ⟨s, e⟩ => ?_)
        · rw [e, List.length_map, List.length_map, List.length_range]
          exact szl (by omega)
        · subst eH ex
          refine ⟨rfl, _, rfl, _, rfl, _, rfl, _, _, rfl, rfl, _, _, rfl, ky _ _ eD ⟨s, ?_⟩⟩
          rw [e, List.range_succ, List.map_append, List.map_append]
          rfl
        · refine ⟨D, _, rfl, .inl ⟨sqL eD, fun t nt => q _ _ ((s1.trans s).trans (same_new nt)) ⟨fun z => ?_, fun _ => ⟨t, rfl, ?_⟩⟩⟩⟩
          · rw [ea, not_if_at] at z
            cases z
          · rw [upd_same, e, tgt_eq ev]
      · exact q _ _ (Same.refl _) ⟨fun z => absurd z e, fun z => absurd (decide_eq_true z) e2⟩
def SignsAt (H : Hp) (sg : Addr) (b : Int) (rs : List Row) : Prop := ∃ sv : List V, H sg = some (.tup sv) ∧ sv.length = rs.length ∧ ∀ n r v, rs[n]? = some r → sv[n]? = some v → SignAt H b rs n r v
theorem SignsAt.same {H H' : Hp} {sg : Addr} {b : Int} {rs : List Row} (s : Same H H') (h : SignsAt H sg b rs) : SignsAt H' sg b rs := by
  obtain ⟨sv, h1, h2, h3⟩ := h
  exact ⟨sv, s _ _ h1, h2, fun n r v e1 e2 => (h3 n r v e1 e2).nl (NL.of s)⟩
theorem snoc_get {α : Type} {l : List α} {y v : α} {n : Nat} (h : (l ++ [y])[n]? = some v) : l[n]? = some v ∨ (n = l.length ∧ v = y) := by
  by_cases hn : n < l.length
  · rw [List.getElem?_append_left hn] at h
    exact .inl h
  · rw [List.getElem?_append_right (by omega)] at h
    have : n - l.length = 0 := by
      cases q : n - l.length with
      | zero => rfl
      | succ k => rw [q] at h; simp at h
    rw [this] at h
    exact .inr ⟨by omega, (Option.some.inj h).symm⟩
def sp_page_signs : Sp := fun vs H Q _ => ∃ (p : Addr) (rs : List Row) (b : Int) (g : Nat), vs = [.ref p, .int b] ∧ ProgAt H p rs ∧ rs.length ≤ 120 ∧ b + longOf rs ≤ 256 ∧ (∀ n r, rs[n]? = some r → RowOk rs g n r) ∧ g ≤ rs.length ∧ ∀ H' sg, Same H H' → SignsAt H' sg b rs → Q (.ref sg) H'
theorem sc_page_signs : FnScope ["program", "base", "places", "number"] ["program", "base"] (defScope (topS 22)) := ⟨rfl, rfl, rfl, by decide +kernel, rfl, by decide +kernel, by decide +kernel⟩
theorem ok_page_signs (T : Txt K mg) : Ok P w K mg base 5 "page_signs" ["program", "base"] (sp_page_signs) := by
  obtain ⟨fd, F⟩ := T.d_page_signs
  obtain ⟨fd_addresses, G_addresses, kp_addresses, b_addresses⟩ := ok_addresses (P := P) (w := w) (base := base) T
  obtain ⟨fd_page_sign, G_page_sign, kp_page_sign, b_page_sign⟩ := ok_page_sign (P := P) (w := w) (base := base) T
  refine ⟨fd, F.ok sc_page_signs (fun vs H Q E h => ?_) (fun cdv A outer s H vs Q E hr h => ?_), F.kp, F.bindsN fun _ _ _ _ _ _ us hl => match us, hl with | [_, _], _ => rfl⟩
  · obtain ⟨p, rs, b, g, rfl, _⟩ := h
    rfl
  · obtain ⟨p, rs, b, g, rfl, hp, hl, hb, ok, hg, q⟩ := h
    have hu := hu_of hr
    refine ⟨_, PSs.nox (pss_cons (ps_set (i := 2) sc_page_signs.nd rfl (by first | exact Or.inl rfl | exact Or.inr rfl) (pe_call G_addresses hr (by rfl) T.g_addresses kp_addresses b_addresses .nil pass0 (pa_cons (pv 0) (pa_cons (pv 1) pa_nil))))
      (pss_one (ps_ret (pe_callTy call_tuple_of (by rfl) T.z_tuple (by decide +kernel) (pa_cons (pe_lc (own := [("number", 3)]) rfl sc_page_signs.nd (pi_range1 (by rfl) T.z_range (pa_cons (pe_callB call_len_seq (by rfl) T.z_len (by decide +kernel) (pa_cons (pv 0) pa_nil)) pa_nil)) (blkOk_by (N := ["program", "base", "places", "number"]) (sc := defScope (topS 22)) (by decide +kernel)) (fun _ _ _ _ _ => (pg_name (i := 3) sc_page_signs.nd rfl (by first | exact Or.inl rfl | exact Or.inr rfl))) (fun _ _ _ _ _ => pts_nil) (fun _ _ _ _ _ => (pe_call G_page_sign (hr.mono (by decide)) (by rfl) T.g_page_sign kp_page_sign b_page_sign .nil pass0 (pa_cons (pv 0) (pa_cons (pv 2) (pa_cons (pv 3) pa_nil)))))) pa_nil))))), ?_⟩
    refine ⟨_, rfl, _, rfl, p, rs, b, rfl, hp, hl, hb, fun H1 pl s1 hpl => ?_⟩
    have hp1 := hp.same s1
    obtain ⟨xs, w1, w2, w3⟩ := hp1.walk
    refine ⟨_, rfl, p, _, rfl, .inr (sqT w1), _, rfl, by omega, by omega, fun D nD => ?_⟩
    refine lc_st walk_rng (fun i acc H' => Same H1 H' ∧ acc.length = i ∧ ∀ n r v, rs[n]? = some r → acc[n]? = some v → SignAt H' b rs n r v) ⟨same_new nD, rfl, fun n r v _ z => by simp at z⟩ (fun i acc _ _ H' hD ⟨s, e, f⟩ => ⟨same_mut s nD, e, fun n r v a1 a2 => (f n r v a1 a2).nl (NL.upd hD)⟩) (fun _ _ _ _ _ => trivial) (fun i acc H' hi ⟨s, e, f⟩ => ?_) (fun i x acc H2 H3 hi eD ⟨s, e, f⟩ ⟨eH, ex⟩ Qy Qn ky kn => ?_) (fun acc H' eD ⟨s, e, f⟩ => ?_)
    · rw [e]
      exact szl (by omega)
    · subst eH ex
      have hi2 : i < rs.length := by omega
      have er : rs[i]? = some rs[i] := List.getElem?_eq_getElem hi2
      refine ⟨rfl, _, rfl, _, rfl, _, rfl, p, pl, rs, b, i, g, _, rfl, hp1.same s, hl, s _ _ hpl, er, ok _ _ er, hg, fun v H4 s4 sg => ky _ _ (s4 _ _ eD) ⟨s.trans s4, by rw [List.length_append, e]; rfl, fun n r v2 a1 a2 => ?_⟩⟩
      rcases snoc_get a2 with z | ⟨z1, z2⟩
      · exact (f n r v2 a1 z).nl (NL.of s4)
      · rw [z1, e, er] at a1
        rw [z2, z1, e, ← Option.some.inj a1]
        exact sg
    · refine ⟨D, _, rfl, .inl ⟨sqL eD, fun t nt => q _ _ ((s1.trans s).trans (same_new nt)) ⟨acc, upd_same, by omega, fun n r v a1 a2 => (f n r v a1 a2).nl (NL.of (same_new nt))⟩⟩⟩
def sp_more_parts : Sp := fun vs H Q _ => vs = [.int 0, .int 255] ∧ ∀ H' l t u, Same H H' → H' l = some (.lst [.ref t, .ref u]) → (∃ x y, H' t = some (.tup [x, y])) → (∃ x y, H' u = some (.tup [x, y])) → Q (.ref l) H'
theorem sc_more_parts : FnScope ["low", "high"] ["low", "high"] (defScope (topS 26)) := ⟨rfl, rfl, rfl, by decide +kernel, rfl, by decide +kernel, by decide +kernel⟩
theorem ok_more_parts (T : Txt K mg) : Ok P w K mg base 1 "more_parts" ["low", "high"] (sp_more_parts) := by
  obtain ⟨fd, F⟩ := T.d_more_parts
  obtain ⟨tMOST_BYTE_cells, hMOST_BYTE_cells⟩ := T.n_MOST_BYTE_cells
  refine ⟨fd, F.ok sc_more_parts (fun vs H Q E h => ?_) (fun cdv A outer s H vs Q E hr h => ?_), F.kp, F.bindsN fun _ _ _ _ _ _ us hl => match us, hl with | [_, _], _ => rfl⟩
  · obtain ⟨rfl, _⟩ := h
    rfl
  · obtain ⟨rfl, q⟩ := h
    have hu := hu_of hr
    refine ⟨_, PSs.nox (pss_cons (ps_if (pt_cmpR op_lt (pv 1) (pe_glob (v := .int 255) (by rfl) hMOST_BYTE_cells ⟨_, rfl⟩) (nomark _))
      (pss_one (ps_ret (pe_lst (pa_cons (pe_tup (pa_cons (pe_op op_add (pv 0) pe_int) (pa_cons (pe_op op_add (pv 1) pe_int) pa_nil))) pa_nil))))
      pss_nil)
      (pss_cons (ps_if (pt_cmpR op_eq (pv 0) (pe_glob (v := .int 255) (by rfl) hMOST_BYTE_cells ⟨_, rfl⟩) (nomark _))
      (pss_one (ps_ret (pe_lst (pa_cons (pe_tup (pa_cons pe_int (pa_cons pe_int pa_nil))) pa_nil))))
      pss_nil)
      (pss_one (ps_ret (pe_lst (pa_cons (pe_tup (pa_cons (pe_op op_add (pv 0) pe_int) (pa_cons (pe_glob (v := .int 255) (by rfl) hMOST_BYTE_cells ⟨_, rfl⟩) pa_nil))) (pa_cons (pe_tup (pa_cons pe_int (pa_cons pe_int pa_nil))) pa_nil))))))), ?_⟩
    refine ⟨_, rfl, _, _, rfl, rfl, _, rfl, ?_⟩
    refine ⟨_, rfl, rfl, _, rfl, ?_⟩
    refine ⟨_, rfl, _, _, rfl, rfl, by show 2 ≤ sizeLine; decide, fun t nt => ?_⟩
    refine ⟨by show 2 ≤ sizeLine; decide, fun u nu => ?_⟩
    refine ⟨by show 2 ≤ sizeLine; decide, fun l nl => ?_⟩
    have ht : upd (upd H t (.tup [.int (0 + 1), .int 255])) u (.tup [.int 0, .int 0]) t = some (.tup [.int (0 + 1), .int 255]) := same_new nu _ _ upd_same
    exact q _ l t u ((same_new nt).trans ((same_new nu).trans (same_new nl))) upd_same ⟨_, _, same_new nl _ _ ht⟩ ⟨_, _, same_new nl _ _ upd_same⟩
def sp_less_parts : Sp := fun vs H Q _ => vs = [.int 0, .int 255] ∧ ∀ H' l t u, Same H H' → H' l = some (.lst [.ref t, .ref u]) → (∃ x y, H' t = some (.tup [x, y])) → (∃ x y, H' u = some (.tup [x, y])) → Q (.ref l) H'
theorem sc_less_parts : FnScope ["low", "high"] ["low", "high"] (defScope (topS 27)) := ⟨rfl, rfl, rfl, by decide +kernel, rfl, by decide +kernel, by decide +kernel⟩
theorem ok_less_parts (T : Txt K mg) : Ok P w K mg base 1 "less_parts" ["low", "high"] (sp_less_parts) := by
  obtain ⟨fd, F⟩ := T.d_less_parts
  obtain ⟨tMOST_BYTE_cells, hMOST_BYTE_cells⟩ := T.n_MOST_BYTE_cells
  refine ⟨fd, F.ok sc_less_parts (fun vs H Q E h => ?_) (fun cdv A outer s H vs Q E hr h => ?_), F.kp, F.bindsN fun _ _ _ _ _ _ us hl => match us, hl with | [_, _], _ => rfl⟩
  · obtain ⟨rfl, _⟩ := h
    rfl
  · obtain ⟨rfl, q⟩ := h
    have hu := hu_of hr
    refine ⟨_, PSs.nox (pss_cons (ps_if (pt_cmpR op_gt (pv 0) pe_int (nomark _))
      (pss_one (ps_ret (pe_lst (pa_cons (pe_tup (pa_cons (pe_op op_sub (pv 0) pe_int) (pa_cons (pe_op op_sub (pv 1) pe_int) pa_nil))) pa_nil))))
      pss_nil)
      (pss_cons (ps_if (pt_cmpR op_eq (pv 1) pe_int (nomark _))
      (pss_one (ps_ret (pe_lst (pa_cons (pe_tup (pa_cons (pe_glob (v := .int 255) (by rfl) hMOST_BYTE_cells ⟨_, rfl⟩) (pa_cons (pe_glob (v := .int 255) (by rfl) hMOST_BYTE_cells ⟨_, rfl⟩) pa_nil))) pa_nil))))
      pss_nil)
      (pss_one (ps_ret (pe_lst (pa_cons (pe_tup (pa_cons pe_int (pa_cons (pe_op op_sub (pv 1) pe_int) pa_nil))) (pa_cons (pe_tup (pa_cons (pe_glob (v := .int 255) (by rfl) hMOST_BYTE_cells ⟨_, rfl⟩) (pa_cons (pe_glob (v := .int 255) (by rfl) hMOST_BYTE_cells ⟨_, rfl⟩) pa_nil))) pa_nil))))))), ?_⟩
    refine ⟨_, rfl, _, _, rfl, rfl, _, rfl, ?_⟩
    refine ⟨_, rfl, rfl, _, rfl, ?_⟩
    refine ⟨_, rfl, _, _, rfl, rfl, by show 2 ≤ sizeLine; decide, fun t nt => ?_⟩
    refine ⟨by show 2 ≤ sizeLine; decide, fun u nu => ?_⟩
    refine ⟨by show 2 ≤ sizeLine; decide, fun l nl => ?_⟩
    have ht : upd (upd H t (.tup [.int 0, .int (255 - 1)])) u (.tup [.int 255, .int 255]) t = some (.tup [.int 0, .int (255 - 1)]) := same_new nu _ _ upd_same
    exact q _ l t u ((same_new nt).trans ((same_new nu).trans (same_new nl))) upd_same ⟨_, _, same_new nl _ _ ht⟩ ⟨_, _, same_new nl _ _ upd_same⟩
end
end B65

end

section
set_option Elab.async false
set_option linter.all false
set_option maxRecDepth 100000
set_option maxHeartbeats 1000000
namespace B65
open PySem PySem.Spec PyProof.Rows L2
section
variable {P : Program} {w : World} {K : PySem.W.Frag} {mg : Str → Option Value} {base : Heap}
def Cells3 (H : Hp) (l : Addr) (n : Nat) : Prop := ∃ as : List Addr, H l = some (.lst (as.map V.ref)) ∧ as.length = n ∧ ∀ a ∈ as, ∃ x y z, H a = some (.tup [x, y, z])
theorem cells1 {H H' : Hp} {a l : Addr} {x y z : V} (na : H a = none) (nl : upd H a (.tup [x, y, z]) l = none) (e : H' = upd (upd H a (.tup [x, y, z])) l (.lst [.ref a])) : Cells3 H' l 1 := by
  subst e
  refine ⟨[a], upd_same, rfl, fun b hb => ?_⟩
  rw [List.mem_singleton.mp hb]
  exact ⟨_, _, _, same_new nl _ _ upd_same⟩
theorem inStr4 (d : Str) : (if false = true then !inV (V.str d) [V.str "ifz", V.str "ifn", V.str "ifc", V.str "ifd"] else inV (V.str d) [V.str "ifz", V.str "ifn", V.str "ifc", V.str "ifd"]) = dm sIF d := inV_str d sIF
def sp_x_behind : Sp := fun vs H Q _ => ∃ (d : Str) (v : V), vs = [.str d, v, .int 0, .int 255, .int 0] ∧ ∀ H' l n, Same H H' → Cells3 H' l n → (n = 1 ∨ n = 2) → Q (.ref l) H'
theorem sc_x_behind : FnScope ["deed", "value", "low", "high", "zero", "least", "most"] ["deed", "value", "low", "high", "zero"] (defScope (topS 28)) := ⟨rfl, rfl, rfl, by decide +kernel, rfl, by decide +kernel, by decide +kernel⟩
theorem ok_x_behind (T : Txt K mg) : Ok P w K mg base 2 "x_behind" ["deed", "value", "low", "high", "zero"] (sp_x_behind) := by
  obtain ⟨fd, F⟩ := T.d_x_behind
  obtain ⟨fd_more_parts, G_more_parts, kp_more_parts, b_more_parts⟩ := ok_more_parts (P := P) (w := w) (base := base) T
  obtain ⟨fd_less_parts, G_less_parts, kp_less_parts, b_less_parts⟩ := ok_less_parts (P := P) (w := w) (base := base) T
  obtain ⟨tMOST_BYTE_cells, hMOST_BYTE_cells⟩ := T.n_MOST_BYTE_cells
  refine ⟨fd, F.ok sc_x_behind (fun vs H Q E h => ?_) (fun cdv A outer s H vs Q E hr h => ?_), F.kp, F.bindsN fun _ _ _ _ _ _ us hl => match us, hl with | [_, _, _, _, _], _ => rfl⟩
  · obtain ⟨d, v, rfl, _⟩ := h
    rfl
  · obtain ⟨d, v, rfl, q⟩ := h
    have hu := hu_of hr
    refine ⟨_, PSs.nox (pss_cons (ps_if (pt_cmpR op_eq (pv 0) pe_str (nomark _))
      (pss_one (ps_ret (pe_lst (pa_cons (pe_tup (pa_cons (pv 1) (pa_cons (pv 1) (pa_cons pe_int pa_nil)))) pa_nil))))
      pss_nil)
      (pss_cons (ps_if (PW.pt (pw_or (pt_cmpR op_eq (pv 0) pe_str (nomark _)) (pw_or1 (pt_cmpR op_eq (pv 0) pe_str (nomark _)))))
      (pss_one (ps_ret (pe_lst (pa_cons (pe_tup (pa_cons pe_int (pa_cons (pe_glob (v := .int 255) (by rfl) hMOST_BYTE_cells ⟨_, rfl⟩) (pa_cons pe_int pa_nil)))) pa_nil))))
      pss_nil)
      (pss_cons (ps_if (pt_cmpR op_eq (pv 0) pe_str (nomark _))
      (pss_one (ps_ret (pe_lc (own := [("least", 5), ("most", 6)]) rfl sc_x_behind.nd (pi_list (pe_call G_more_parts hr (by rfl) T.g_more_parts kp_more_parts b_more_parts .nil pass0 (pa_cons (pv 2) (pa_cons (pv 3) pa_nil)))) (blkOk_by (N := ["deed", "value", "low", "high", "zero", "least", "most"]) (sc := defScope (topS 28)) (by decide +kernel)) (fun _ _ _ _ _ => (R65.pg_tupK (K := K) (n := 2) rfl rfl (pgs_cons (pg_name (i := 5) sc_x_behind.nd rfl (by first | exact Or.inl rfl | exact Or.inr rfl)) (pgs_cons (pg_name (i := 6) sc_x_behind.nd rfl (by first | exact Or.inl rfl | exact Or.inr rfl)) pgs_nil)))) (fun _ _ _ _ _ => pts_nil) (fun _ _ _ _ _ => (pe_tup (pa_cons (pv 5) (pa_cons (pv 6) (pa_cons pe_int pa_nil))))))))
      pss_nil)
      (pss_cons (ps_if (pt_cmpR op_eq (pv 0) pe_str (nomark _))
      (pss_one (ps_ret (pe_lc (own := [("least", 5), ("most", 6)]) rfl sc_x_behind.nd (pi_list (pe_call G_less_parts hr (by rfl) T.g_less_parts kp_less_parts b_less_parts .nil pass0 (pa_cons (pv 2) (pa_cons (pv 3) pa_nil)))) (blkOk_by (N := ["deed", "value", "low", "high", "zero", "least", "most"]) (sc := defScope (topS 28)) (by decide +kernel)) (fun _ _ _ _ _ => (R65.pg_tupK (K := K) (n := 2) rfl rfl (pgs_cons (pg_name (i := 5) sc_x_behind.nd rfl (by first | exact Or.inl rfl | exact Or.inr rfl)) (pgs_cons (pg_name (i := 6) sc_x_behind.nd rfl (by first | exact Or.inl rfl | exact Or.inr rfl)) pgs_nil)))) (fun _ _ _ _ _ => pts_nil) (fun _ _ _ _ _ => (pe_tup (pa_cons (pv 5) (pa_cons (pv 6) (pa_cons pe_int pa_nil))))))))
      pss_nil)
      (pss_cons (ps_if (pt_cmpR op_eq (pv 0) pe_str (nomark _))
      (pss_one (ps_ret (pe_lst (pa_cons (pe_tup (pa_cons (pv 2) (pa_cons (pv 3) (pa_cons pe_int pa_nil)))) pa_nil))))
      pss_nil)
      (pss_one (ps_ret (pe_lst (pa_cons (pe_tup (pa_cons (pv 2) (pa_cons (pv 3) (pa_cons (pe_op op_mul (pv 4) (pe_callTy call_int1 (by rfl) T.z_int (by decide +kernel) (pa_cons (pe_cmpR op_in_seq (pv 0) (pe_glob (v := .ref _) (by rfl) T.g_SAME_FLAG rfl) (by rfl)) pa_nil))) pa_nil)))) pa_nil))))))))), ?_⟩
    have one : ∀ {x y z : V} {H1 : Hp}, Same H H1 → ∀ a, H1 a = none → ∀ l, upd H1 a (.tup [x, y, z]) l = none → Q (.ref l) (upd (upd H1 a (.tup [x, y, z])) l (.lst [.ref a])) := fun s a na l nl => q _ l 1 (s.trans ((same_new na).trans (same_new nl))) (cells1 na nl rfl) (.inl rfl)
    refine ⟨_, rfl, rfl, _, rfl, ite2 (fun _ => ?_) (fun _ => ?_)⟩
    · exact ⟨_, rfl, _, rfl, by show 3 ≤ sizeLine; decide, fun a na => ⟨by show 1 ≤ sizeLine; decide, fun l nl => one (Same.refl _) a na l nl⟩⟩
    refine ⟨_, rfl, rfl, _, rfl, ?_⟩
    have rest : ∀ Q' : Prop, True → True := fun _ _ => trivial
    refine ite2 (fun _ => ?_) (fun _ => ⟨_, rfl, rfl, _, rfl, ite2 (fun _ => ?_) (fun _ => ?_)⟩)
    · exact ⟨by show 3 ≤ sizeLine; decide, fun a na => ⟨by show 1 ≤ sizeLine; decide, fun l nl => one (Same.refl _) a na l nl⟩⟩
    · exact ⟨by show 3 ≤ sizeLine; decide, fun a na => ⟨by show 1 ≤ sizeLine; decide, fun l nl => one (Same.refl _) a na l nl⟩⟩
    refine ⟨_, rfl, rfl, _, rfl, ite2 (fun _ => ?_) (fun _ => ?_)⟩
    · refine ⟨_, rfl, _, rfl, rfl, fun H1 l t u s1 hl ht hu2 => ⟨l, rfl, ⟨_, sqL hl⟩, fun D nD => ?_⟩⟩
      obtain ⟨x1, y1, ht⟩ := ht
      obtain ⟨x2, y2, hu2⟩ := hu2
      refine lc_st (walk_list (K := K) (a := l) (xs := [.ref t, .ref u])) (fun i acc H' => Same H1 H' ∧ ∃ as : List Addr, acc = as.map V.ref ∧ as.length = i ∧ ∀ a ∈ as, ∃ x y z, H' a = some (.tup [x, y, z])) ⟨same_new nD, [], rfl, rfl, fun a ha => by cases ha⟩
        (fun i acc _ _ H' hD ⟨s, as, e1, e2, f⟩ => ⟨same_mut s nD, as, e1, e2, fun a ha => let ⟨x, y, z, e⟩ := f a ha; ⟨x, y, z, (NL.upd hD).tup e⟩⟩) (fun i acc H' _ ⟨s, _⟩ => sqL (s _ _ hl)) (fun i acc H' hi ⟨s, as, e1, e2, f⟩ => by rw [e1, List.length_map, e2]; exact szl (Nat.lt_trans hi (by show 2 < 100000; decide)))
        (fun i x acc H2 H3 hi eD ⟨s, as, e1, e2, f⟩ ⟨eH, ex⟩ Qy Qn ky kn => ?_) (fun acc H' eD ⟨s, as, e1, e2, f⟩ => ?_)
      · subst eH
        have h2 : ∃ c x1 y1, x = .ref c ∧ H3 c = some (.tup [x1, y1]) := by
          match i, ex with
          | 0, ex => exact ⟨t, x1, y1, (Option.some.inj ex).symm, s _ _ ht⟩
          | 1, ex => exact ⟨u, x2, y2, (Option.some.inj ex).symm, s _ _ hu2⟩
          | i + 2, ex => simp at ex
        obtain ⟨c, x3, y3, rfl, hc⟩ := h2
        refine ⟨c, _, rfl, sqT hc, rfl, _, _, rfl, _, _, rfl, rfl, rfl, _, rfl, _, rfl, by show 3 ≤ sizeLine; decide, fun a na => ky _ _ (same_new na _ _ eD) ⟨same_then s na, as ++ [a], by rw [e1, List.map_append]; rfl, by rw [List.length_append, e2]; rfl, fun b hb => ?_⟩⟩
        rcases List.mem_append.mp hb with hb | hb
        · obtain ⟨x, y, z, e⟩ := f b hb
          exact ⟨x, y, z, same_new na _ _ e⟩
        · rw [List.mem_singleton.mp hb]
          exact ⟨_, _, _, upd_same⟩
      · exact q H' D 2 (s1.trans s) ⟨as, by rw [eD, e1], e2, f⟩ (.inr rfl)
    refine ⟨_, rfl, rfl, _, rfl, ite2 (fun _ => ?_) (fun _ => ?_)⟩
    · refine ⟨_, rfl, _, rfl, rfl, fun H1 l t u s1 hl ht hu2 => ⟨l, rfl, ⟨_, sqL hl⟩, fun D nD => ?_⟩⟩
      obtain ⟨x1, y1, ht⟩ := ht
      obtain ⟨x2, y2, hu2⟩ := hu2
      refine lc_st (walk_list (K := K) (a := l) (xs := [.ref t, .ref u])) (fun i acc H' => Same H1 H' ∧ ∃ as : List Addr, acc = as.map V.ref ∧ as.length = i ∧ ∀ a ∈ as, ∃ x y z, H' a = some (.tup [x, y, z])) ⟨same_new nD, [], rfl, rfl, fun a ha => by cases ha⟩
        (fun i acc _ _ H' hD ⟨s, as, e1, e2, f⟩ => ⟨same_mut s nD, as, e1, e2, fun a ha => let ⟨x, y, z, e⟩ := f a ha; ⟨x, y, z, (NL.upd hD).tup e⟩⟩) (fun i acc H' _ ⟨s, _⟩ => sqL (s _ _ hl)) (fun i acc H' hi ⟨s, as, e1, e2, f⟩ => by rw [e1, List.length_map, e2]; exact szl (Nat.lt_trans hi (by show 2 < 100000; decide)))
        (fun i x acc H2 H3 hi eD ⟨s, as, e1, e2, f⟩ ⟨eH, ex⟩ Qy Qn ky kn => ?_) (fun acc H' eD ⟨s, as, e1, e2, f⟩ => ?_)
      · subst eH
        have h2 : ∃ c x1 y1, x = .ref c ∧ H3 c = some (.tup [x1, y1]) := by
          match i, ex with
          | 0, ex => exact ⟨t, x1, y1, (Option.some.inj ex).symm, s _ _ ht⟩
          | 1, ex => exact ⟨u, x2, y2, (Option.some.inj ex).symm, s _ _ hu2⟩
          | i + 2, ex => simp at ex
        obtain ⟨c, x3, y3, rfl, hc⟩ := h2
        refine ⟨c, _, rfl, sqT hc, rfl, _, _, rfl, _, _, rfl, rfl, rfl, _, rfl, _, rfl, by show 3 ≤ sizeLine; decide, fun a na => ky _ _ (same_new na _ _ eD) ⟨same_then s na, as ++ [a], by rw [e1, List.map_append]; rfl, by rw [List.length_append, e2]; rfl, fun b hb => ?_⟩⟩
        rcases List.mem_append.mp hb with hb | hb
        · obtain ⟨x, y, z, e⟩ := f b hb
          exact ⟨x, y, z, same_new na _ _ e⟩
        · rw [List.mem_singleton.mp hb]
          exact ⟨_, _, _, upd_same⟩
      · exact q H' D 2 (s1.trans s) ⟨as, by rw [eD, e1], e2, f⟩ (.inr rfl)
    refine ⟨_, rfl, rfl, _, rfl, ite2 (fun _ => ?_) (fun _ => ?_)⟩
    · exact ⟨_, rfl, _, rfl, by show 3 ≤ sizeLine; decide, fun a na => ⟨by show 1 ≤ sizeLine; decide, fun l nl => one (Same.refl _) a na l nl⟩⟩
    · exact ⟨_, rfl, _, rfl, _, rfl, _, rfl, _, _, rfl, .inr (T.s_SAME H), rfl, flat_strs _, .inr ⟨_, rfl, _, _, rfl, rfl, .inl ⟨by decide, by decide⟩, by show 3 ≤ sizeLine; decide, fun a na => ⟨by show 1 ≤ sizeLine; decide, fun l nl => one (Same.refl _) a na l nl⟩⟩⟩
def sp_x_where : Sp := fun vs H Q _ => ∃ k : Bool, vs = [.int 0, .int 255, .int 0, .bl k] ∧ ∀ H' t, Same H H' → H' t = some (.tup [.int 0, .int 255]) → Q (.ref t) H'
theorem sc_x_where : FnScope ["low", "high", "zero", "is_set"] ["low", "high", "zero", "is_set"] (defScope (topS 29)) := ⟨rfl, rfl, rfl, by decide +kernel, rfl, by decide +kernel, by decide +kernel⟩
theorem ok_x_where (T : Txt K mg) : Ok P w K mg base 1 "x_where" ["low", "high", "zero", "is_set"] (sp_x_where) := by
  obtain ⟨fd, F⟩ := T.d_x_where
  refine ⟨fd, F.ok sc_x_where (fun vs H Q E h => ?_) (fun cdv A outer s H vs Q E hr h => ?_), F.kp, F.bindsN fun _ _ _ _ _ _ us hl => match us, hl with | [_, _, _, _], _ => rfl⟩
  · obtain ⟨k, rfl, _⟩ := h
    rfl
  · obtain ⟨k, rfl, q⟩ := h
    have hu := hu_of hr
    refine ⟨_, PSs.nox (pss_cons (ps_if (pt_cmpR op_eq (pv 2) pe_int (nomark _))
      (pss_one (ps_ret (pe_tup (pa_cons (pv 0) (pa_cons (pv 1) pa_nil)))))
      pss_nil)
      (pss_cons (ps_if (PW.pt (pw_and (pt_val (pv 3)) (pw_and1 (pt_cmpR op_eq (pv 0) pe_int (nomark _)))))
      (pss_one (ps_ret (pe_tup (pa_cons pe_int (pa_cons pe_int pa_nil)))))
      pss_nil)
      (pss_cons (ps_if (PW.pt (pw_and (pt_not (pt_val (pv 3))) (pw_and1 (pt_cmpR op_gt (pv 1) pe_int (nomark _)))))
      (pss_one (ps_ret (pe_tup (pa_cons (pe_callB (call_max2 rfl) (by rfl) T.z_max (by decide +kernel) (pa_cons pe_int (pa_cons (pv 0) pa_nil))) (pa_cons (pv 1) pa_nil)))))
      pss_nil)
      (pss_one (ps_ret pe_non))))), ?_⟩
    exact ⟨_, rfl, rfl, _, rfl, _, rfl, _, rfl, by show 2 ≤ sizeLine; decide, fun t nt => q _ t (same_new nt) upd_same⟩
def sp_x_gone : Sp := fun vs H Q _ => ∃ (d : Str) (k : Bool), vs = [.str d, .int 0, .int 255, .int 0, .bl k] ∧ ∀ H' t, Same H H' → H' t = some (.tup [.int 0, .int 255]) → Q (.ref t) H'
theorem sc_x_gone : FnScope ["deed", "low", "high", "zero", "is_gone"] ["deed", "low", "high", "zero", "is_gone"] (defScope (topS 30)) := ⟨rfl, rfl, rfl, by decide +kernel, rfl, by decide +kernel, by decide +kernel⟩
theorem ok_x_gone (T : Txt K mg) : Ok P w K mg base 2 "x_gone" ["deed", "low", "high", "zero", "is_gone"] (sp_x_gone) := by
  obtain ⟨fd, F⟩ := T.d_x_gone
  obtain ⟨fd_x_where, G_x_where, kp_x_where, b_x_where⟩ := ok_x_where (P := P) (w := w) (base := base) T
  refine ⟨fd, F.ok sc_x_gone (fun vs H Q E h => ?_) (fun cdv A outer s H vs Q E hr h => ?_), F.kp, F.bindsN fun _ _ _ _ _ _ us hl => match us, hl with | [_, _, _, _, _], _ => rfl⟩
  · obtain ⟨d, k, rfl, _⟩ := h
    rfl
  · obtain ⟨d, k, rfl, q⟩ := h
    have hu := hu_of hr
    refine ⟨_, PSs.nox (pss_cons (ps_if (pt_cmpR op_eq (pv 0) pe_str (nomark _))
      (pss_one (ps_ret (pe_call G_x_where hr (by rfl) T.g_x_where kp_x_where b_x_where .nil pass0 (pa_cons (pv 1) (pa_cons (pv 2) (pa_cons (pv 3) (pa_cons (pv 4) pa_nil)))))))
      pss_nil)
      (pss_cons (ps_if (pt_cmpR op_eq (pv 0) pe_str (nomark _))
      (pss_one (ps_ret (pe_call G_x_where hr (by rfl) T.g_x_where kp_x_where b_x_where .nil pass0 (pa_cons (pv 1) (pa_cons (pv 2) (pa_cons (pv 3) (pa_cons (pe_not (pv 4)) pa_nil)))))))
      pss_nil)
      (pss_one (ps_ret (pe_tup (pa_cons (pv 1) (pa_cons (pv 2) pa_nil))))))), ?_⟩
    refine ⟨_, rfl, rfl, _, rfl, ite2 (fun _ => ?_) (fun _ => ?_)⟩
    · exact ⟨_, rfl, _, rfl, _, rfl, _, rfl, k, rfl, q⟩
    refine ⟨_, rfl, rfl, _, rfl, ite2 (fun _ => ?_) (fun _ => ?_)⟩
    · exact ⟨_, rfl, _, rfl, _, rfl, _, rfl, _, rfl, !k, rfl, q⟩
    · exact ⟨_, rfl, _, rfl, by show 2 ≤ sizeLine; decide, fun t nt => q _ t (same_new nt) upd_same⟩
end
end B65

end

section
set_option Elab.async false
set_option linter.all false
set_option maxRecDepth 100000
set_option maxHeartbeats 1000000
namespace B65
open PySem PySem.Spec PyProof.Rows L2
section
variable {P : Program} {w : World} {K : PySem.W.Frag} {mg : Str → Option Value} {base : Heap}
abbrev Edge := Nat × Int × Int
/-- what comes of a row, as a list of tuples -/
def CsAt (H : Hp) (l : Addr) (cs : List Edge) : Prop := ∃ as : List Addr, H l = some (.lst (as.map V.ref)) ∧ as.length = cs.length ∧ ∀ (j : Nat) (e : Edge) (a : Addr), cs[j]? = some e → as[j]? = some a → ∃ x y z, H a = some (.tup [.int (e.1 : Int), x, y, z, .int e.2.1, .int e.2.2])
def farOf (b : Int) (rs : List Row) (n : Nat) (r : Row) : Int := 3 + cross (adrOf b rs (tgt rs r)) (adrOf b rs (n + 1))
theorem cross_le (a b : Int) : 0 ≤ cross a b ∧ cross a b ≤ 1 := by
  unfold cross
  by_cases e : a / 32 = b / 32
  · rw [if_pos e]; omega
  · rw [if_neg e]; omega
theorem far_le (b : Int) (rs : List Row) (n : Nat) (r : Row) : 3 ≤ farOf b rs n r ∧ farOf b rs n r ≤ 4 := by
  have := cross_le (adrOf b rs (tgt rs r)) (adrOf b rs (n + 1))
  unfold farOf
  omega
def ifEdges (b : Int) (rs : List Row) (n : Nat) (r : Row) : List Edge := [(n + 1, 2, 2), (tgt rs r, farOf b rs n r, farOf b rs n r)]
theorem perm2 {α : Type} {ys : List α} {a b : α} (h : ys.Perm [a, b]) : ys = [a, b] ∨ ys = [b, a] := by
  match ys, h with
  | [], h => exact absurd h.length_eq (by simp)
  | [x], h => exact absurd h.length_eq (by simp)
  | x :: y :: z :: r, h => exact absurd h.length_eq (by simp)
  | [x, y], h =>
    have hx : x ∈ [a, b] := h.mem_iff.mp (by simp)
    rcases List.mem_cons.mp hx with e | e
    · subst e
      have h2 : [y].Perm [b] := (List.perm_cons x).mp h
      have e2 : y = b := by simpa using h2
      exact .inl (by rw [e2])
    · have e2 : x = b := List.mem_singleton.mp e
      subst e2
      have h2 : (x :: [y]).Perm (x :: [a]) := h.trans (List.Perm.swap x a [])
      have e3 : y = a := by simpa using (List.perm_cons x).mp h2
      exact .inr (by rw [e3])
def sp_if_comes : Sp := fun vs H Q _ => ∃ (p sg xt : Addr) (rs : List Row) (b : Int) (n g : Nat) (r : Row), vs = [.ref p, .ref sg, .int (n : Int), .ref xt] ∧ ProgAt H p rs ∧ SignsAt H sg b rs ∧ H xt = some (.tup [.int 0, .int 255, .int 0]) ∧ rs[n]? = some r ∧ RowOk rs g n r ∧ g ≤ rs.length ∧ rs.length ≤ 120 ∧ dm sIF r.deed = true ∧
  ∀ H' l cs, Same H H' → cs.Perm (ifEdges b rs n r) → CsAt H' l cs → Q (.ref l) H'
theorem sc_if_comes : FnScope ["program", "signs", "row", "x", "mark", "deed", "value", "low", "high", "zero", "ways", "found", "other", "is_gone", "beats", "some"] ["program", "signs", "row", "x"] (defScope (topS 31)) := ⟨rfl, rfl, rfl, by decide +kernel, rfl, by decide +kernel, by decide +kernel⟩
theorem ok_if_comes (T : Txt K mg) : Ok P w K mg base 3 "if_comes" ["program", "signs", "row", "x"] (sp_if_comes) := by
  obtain ⟨fd, F⟩ := T.d_if_comes
  obtain ⟨fd_row_of, G_row_of, kp_row_of, b_row_of⟩ := ok_row_of (P := P) (w := w) (base := base) T
  obtain ⟨fd_x_gone, G_x_gone, kp_x_gone, b_x_gone⟩ := ok_x_gone (P := P) (w := w) (base := base) T
  refine ⟨fd, F.ok sc_if_comes (fun vs H Q E h => ?_) (fun cdv A outer s H vs Q E hr h => ?_), F.kp, F.bindsN fun _ _ _ _ _ _ us hl => match us, hl with | [_, _, _, _], _ => rfl⟩
  · obtain ⟨p, sg, xt, rs, b, n, g, r, rfl, _⟩ := h
    rfl
  · obtain ⟨p, sg, xt, rs, b, n, g, r, rfl, hp, hsg, hxt, hn, ok, hg, hl, hif, q⟩ := h
    have hu := hu_of hr
    refine ⟨_, PSs.nox (pss_cons (ps_asg (pe_ix ix_tup (pv 0) (pv 2) (fun _ _ => rfl)) (pg_tup rfl (pgs_cons (pg_name (i := 4) sc_if_comes.nd rfl (by first | exact Or.inl rfl | exact Or.inr rfl)) (pgs_cons (pg_name (i := 5) sc_if_comes.nd rfl (by first | exact Or.inl rfl | exact Or.inr rfl)) (pgs_cons (pg_name (i := 6) sc_if_comes.nd rfl (by first | exact Or.inl rfl | exact Or.inr rfl)) pgs_nil)))))
      (pss_cons (ps_asg (pv 3) (pg_tup rfl (pgs_cons (pg_name (i := 7) sc_if_comes.nd rfl (by first | exact Or.inl rfl | exact Or.inr rfl)) (pgs_cons (pg_name (i := 8) sc_if_comes.nd rfl (by first | exact Or.inl rfl | exact Or.inr rfl)) (pgs_cons (pg_name (i := 9) sc_if_comes.nd rfl (by first | exact Or.inl rfl | exact Or.inr rfl)) pgs_nil)))))
      (pss_cons (ps_set (i := 10) sc_if_comes.nd rfl (by first | exact Or.inl rfl | exact Or.inr rfl) (pe_lst (pa_cons (pe_tup (pa_cons (pe_op op_add (pv 2) pe_int) (pa_cons pe_bl (pa_cons pe_int pa_nil)))) (pa_cons (pe_tup (pa_cons (pe_call G_row_of (hr.mono (by decide)) (by rfl) T.g_row_of kp_row_of b_row_of .nil pass0 (pa_cons (pv 0) (pa_cons (pv 6) pa_nil))) (pa_cons pe_bl (pa_cons (pe_op op_add pe_int (pe_ix ix_tup (pv 1) (pv 2) (fun _ _ => rfl))) pa_nil)))) pa_nil))))
      (pss_cons (ps_set (i := 11) sc_if_comes.nd rfl (by first | exact Or.inl rfl | exact Or.inr rfl) (pe_lst pa_nil))
      (pss_cons (ps_for PassesOwn.never rfl (pi_list (pv 10)) (pg_tup rfl (pgs_cons (pg_name (i := 12) sc_if_comes.nd rfl (by first | exact Or.inl rfl | exact Or.inr rfl)) (pgs_cons (pg_name (i := 13) sc_if_comes.nd rfl (by first | exact Or.inl rfl | exact Or.inr rfl)) (pgs_cons (pg_name (i := 14) sc_if_comes.nd rfl (by first | exact Or.inl rfl | exact Or.inr rfl)) pgs_nil))))
      (pss_cons (ps_set (i := 15) sc_if_comes.nd rfl (by first | exact Or.inl rfl | exact Or.inr rfl) (pe_call G_x_gone hr (by rfl) T.g_x_gone kp_x_gone b_x_gone .nil pass0 (pa_cons (pv 5) (pa_cons (pv 7) (pa_cons (pv 8) (pa_cons (pv 9) (pa_cons (pv 13) pa_nil)))))))
      (pss_one (ps_if (pt_cmpR op_notN (pv 15) pe_non (nomark _))
      (pss_one (ps_expr (pe_bm PySem.F.plainAttrs_list PySem.F.slot_list_append PySem.F.type_list_append mt_append (pv 11) (pa_cons (pe_tup (pa_cons (pv 12) (pa_cons (pe_ix ix_tup (pv 15) pe_int (fun _ _ => rfl)) (pa_cons (pe_ix ix_tup (pv 15) pe_int (fun _ _ => rfl)) (pa_cons (pv 9) (pa_cons (pv 14) (pa_cons (pv 14) pa_nil))))))) pa_nil))))
      pss_nil))))
      (pss_one (ps_ret (pe_callB (cr_sortT (d := 6) (B := 1000) (by decide)) (by rfl) T.z_sorted (by decide +kernel) (pa_cons (pv 11) pa_nil))))))))), ?_⟩
    obtain ⟨xs, a, h1, h2, h3⟩ := hp.row hn
    obtain ⟨m, ev, hm, hm2⟩ := ok.jump (.inl hif)
    have hmt := tgt_eq (rs := rs) ev
    have hf := far_le b rs n r
    have nd : r.deed ≠ "data" := fun z => by rw [z] at hif; exact absurd hif (by decide +kernel)
    have ng : r.deed ≠ "go" := fun z => by rw [z] at hif; exact absurd hif (by decide +kernel)
    have hx := ok.nx nd ng
    refine ⟨_, rfl, _, rfl, _, _, _, _, rfl, rfl, sqT h1, h2, a, _, rfl, sqT h3, rfl, _, _, rfl, _, _, rfl, _, _, rfl, rfl, ?_⟩
    refine ⟨_, rfl, xt, _, rfl, sqT hxt, rfl, _, _, rfl, _, _, rfl, _, _, rfl, rfl, ?_⟩
    -- the two ways
    refine ⟨_, rfl, _, _, rfl, rfl, by show 3 ≤ sizeLine; decide, fun w1 nw1 => ?_⟩
    have s1 := same_new (o := .tup [.int ((n : Int) + 1), .bl false, .int 2]) nw1
    refine ⟨_, rfl, _, rfl, p, rs, m, by rw [ev]; rfl, hp.same s1, hm, hl, fun H2 s2 => ?_⟩
    obtain ⟨sv, g1, g2, g3⟩ := hsg.same (s1.trans s2)
    have hnl : n < rs.length := (List.getElem?_eq_some_iff.mp hn).1
    obtain ⟨v, hv⟩ : ∃ v, sv[n]? = some v := ⟨sv[n]'(by omega), List.getElem?_eq_getElem _⟩
    have hv2 := (g3 n r v hn hv).1 hif
    subst hv2
    refine ⟨_, rfl, _, rfl, sg, _, _, _, rfl, rfl, sqT g1, atI_nat hv, _, _, rfl, rfl, by show 3 ≤ sizeLine; decide, fun w2 nw2 => ?_⟩
    refine ⟨by show 2 ≤ sizeLine; decide, fun wl nwl => ?_⟩
    have eW1 : H2 w1 = some (.tup [.int ((n + 1 : Nat) : Int), .bl false, .int 2]) := s2 _ _ upd_same
    refine ⟨Nat.zero_le _, fun fo nfo => ?_⟩
    generalize hH3 : upd (upd H2 w2 (.tup [.int ((ixOf m (marks rs) : Nat) : Int), .bl true, .int (3 + cross (adrOf b rs (tgt rs r)) (adrOf b rs (n + 1)))])) wl (.lst [.ref w1, .ref w2]) = H3 at *
    have e3 : H3 wl = some (.lst [.ref w1, .ref w2]) := by rw [← hH3]; exact upd_same
    refine ⟨_, rfl, wl, rfl, ⟨_, sqL (same_new nfo _ _ e3)⟩, for_it (walk_list (K := K) (a := wl) (xs := [.ref w1, .ref w2])) (fun i σ H' => ∃ (as : List Addr) (x1 x2 x3 x4 : Option V), σ = [some (.ref p), some (.ref sg), some (.int (n : Int)), some (.ref xt), some (.str r.mark), some (.str r.deed), some r.val, some (.int 0), some (.int 255), some (.int 0), some (.ref wl), some (.ref fo), x1, x2, x3, x4] ∧
        Same H3 H' ∧ H' fo = some (.lst (as.map V.ref)) ∧ as.length = i ∧ ∀ (j : Nat) (e : Edge) (a : Addr), (ifEdges b rs n r)[j]? = some e → as[j]? = some a → H' a = some (.tup (([(e.1 : Int), 0, 255, 0, e.2.1, e.2.2] : List Int).map V.int)))
      ⟨[], none, none, none, none, rfl, same_new nfo, upd_same, rfl, fun j e a _ z => by simp at z⟩ ?_ ?_ ?_⟩
    · rintro i σ H' hi ⟨as, x1, x2, x3, x4, _, s, _⟩
      exact sqL (s _ _ e3)
    · rintro i x σ H4 H' hi ⟨as, x1, x2, x3, x4, rfl, s, ef, el, fa⟩ ⟨rfl, ex⟩
      have eW1' : H3 w1 = some (.tup [.int ((n + 1 : Nat) : Int), .bl false, .int 2]) := by rw [← hH3]; exact (same_new nwl) _ _ ((same_new nw2) _ _ eW1)
      have eW2' : H3 w2 = some (.tup [.int ((ixOf m (marks rs) : Nat) : Int), .bl true, .int (3 + cross (adrOf b rs (tgt rs r)) (adrOf b rs (n + 1)))]) := by rw [← hH3]; exact (same_new nwl) _ _ upd_same
      have hw : ∃ (c : Addr) (e : Edge) (k : Bool), x = .ref c ∧ (ifEdges b rs n r)[i]? = some e ∧ H' c = some (.tup [.int (e.1 : Int), .bl k, .int e.2.1]) ∧ e.2.1 = e.2.2 := by
        match i, ex with
        | 0, ex => exact ⟨w1, _, _, (Option.some.inj ex).symm, rfl, s _ _ eW1', rfl⟩
        | 1, ex => exact ⟨w2, _, true, (Option.some.inj ex).symm, rfl, by rw [← hmt] at eW2'; exact s _ _ eW2', rfl⟩
        | i + 2, ex => simp at ex
      obtain ⟨c, e, k, rfl, ee, hc, e12⟩ := hw
      refine ⟨c, _, rfl, sqT hc, rfl, _, _, rfl, _, _, rfl, _, _, rfl, rfl, ?_⟩
      refine ⟨_, rfl, _, rfl, _, rfl, _, rfl, _, rfl, r.deed, k, rfl, fun H5 t s5 ht => ?_⟩
      refine ⟨_, rfl, rfl, _, rfl, ?_⟩
      refine ⟨_, rfl, .inl ⟨rfl, _, sqL (s5 _ _ ef)⟩, _, rfl, _, rfl, t, _, _, _, rfl, rfl, sqT ht, atI_nat (j := 0) rfl, _, rfl, t, _, _, _, rfl, rfl, sqT ht, atI_nat (j := 1) rfl, _, rfl, _, rfl, _, rfl, by show 6 ≤ sizeLine; decide, fun u nu => ?_⟩
      refine ⟨fo, _, _, rfl, rfl, same_new nu _ _ (s5 _ _ ef), by rw [List.length_map, el]; exact szl (Nat.lt_trans hi (by show 2 < 100000; decide)), ?_⟩
      refine ⟨as ++ [u], _, _, _, _, rfl, same_mut ((s.trans s5).trans (same_new nu)) nfo, by rw [upd_same, List.map_append]; rfl, by rw [List.length_append, el]; rfl, fun j e9 a9 z1 z2 => ?_⟩
      rcases snoc_get z2 with z | ⟨z3, z4⟩
      · have old := fa j e9 a9 z1 z
        exact upd_at (same_new nu _ _ (s5 _ _ old)) (ne_of old ef (by intro z; cases z))
      · subst z4
        rw [z3, el, ee] at z1
        have e10 := Option.some.inj z1
        subst e10
        refine upd_at ?_ (fun z => ?_)
        · rw [e12]
          rw [← e12]
          exact upd_same
        · rw [z] at nu
          have q9 := s5 _ _ ef
          rw [nu] at q9
          cases q9
    · rintro σ H' ⟨as, x1, x2, x3, x4, rfl, s, ef, el, fa⟩
      match as, el, fa, ef with
      | [u1, u2], el, fa, ef =>
        have f1 := fa 0 _ u1 rfl rfl
        have f2 := fa 1 _ u2 rfl rfl
        have sH : Same H H3 := by rw [← hH3]; exact (s1.trans s2).trans ((same_new nw2).trans (same_new nwl))
        refine ⟨_, rfl, fo, _, rfl, sqL ef, by show 2 < 64; decide, fun y hy => ?_, fun ys t hperm _ nt => ?_⟩
        · have ht9 := mark_lt hm
          rw [← hmt] at ht9
          rcases List.mem_cons.mp hy with e | e
          · subst e
            refine ⟨_, ⟨u1, rfl, sqT f1⟩, rfl, ?_⟩
            intro z hz
            simp only [List.mem_cons, List.not_mem_nil, or_false] at hz
            show 0 ≤ z ∧ z < 1000
            rcases hz with z1 | z1 | z1 | z1 | z1 | z1 <;> subst z1 <;> (show _ ∧ _) <;> constructor <;> first | omega | (show (_ : Int) < _; simp only; omega) | (show (_ : Int) ≤ _; simp only; omega)
          · rw [List.mem_singleton.mp e]
            refine ⟨_, ⟨u2, rfl, sqT f2⟩, rfl, ?_⟩
            intro z hz
            simp only [List.mem_cons, List.not_mem_nil, or_false] at hz
            show 0 ≤ z ∧ z < 1000
            rcases hz with z1 | z1 | z1 | z1 | z1 | z1 <;> subst z1 <;> (show _ ∧ _) <;> constructor <;> first | omega | (show (_ : Int) < _; simp only; omega) | (show (_ : Int) ≤ _; simp only; omega)
        · have s9 := same_new (H := H') (o := .lst ys) nt
          rcases perm2 hperm with e | e
          · refine q _ t [(n + 1, 2, 2), (tgt rs r, farOf b rs n r, farOf b rs n r)] ((sH.trans s).trans s9) (List.Perm.refl _) ⟨[u1, u2], by rw [upd_same, e]; rfl, rfl, fun j e9 a9 z1 z2 => ?_⟩
            exact ⟨_, _, _, s9 _ _ (fa j e9 a9 z1 z2)⟩
          · refine q _ t [(tgt rs r, farOf b rs n r, farOf b rs n r), (n + 1, 2, 2)] ((sH.trans s).trans s9) (List.Perm.swap _ _ _) ⟨[u2, u1], by rw [upd_same, e]; rfl, rfl, fun j e9 a9 z1 z2 => ?_⟩
            match j, z1, z2 with
            | 0, z1, z2 =>
              cases z1; cases z2
              exact ⟨_, _, _, s9 _ _ f2⟩
            | 1, z1, z2 =>
              cases z1; cases z2
              exact ⟨_, _, _, s9 _ _ f1⟩
            | j + 2, z1, z2 => simp at z1
end
end B65

end

section
set_option Elab.async false
set_option linter.all false
set_option maxRecDepth 100000
set_option maxHeartbeats 1000000
namespace B65
open PySem PySem.Spec PyProof.Rows L2
section
variable {P : Program} {w : World} {K : PySem.W.Frag} {mg : Str → Option Value} {base : Heap}
/-- what a row that is no if-row takes, and where to -/
def edgeOf (rs : List Row) (n : Nat) (r : Row) : Edge := (if r.deed = "go" then tgt rs r else n + 1, beatsOf r.deed, beatsOf r.deed + (if r.deed = "at" then 1 else 0))
def ComesOk (b : Int) (rs : List Row) (n : Nat) (r : Row) (cs : List Edge) : Prop := (dm sIF r.deed = true ∧ cs.Perm (ifEdges b rs n r)) ∨ (dm sIF r.deed = false ∧ ∃ k, (k = 1 ∨ k = 2) ∧ cs = List.replicate k (edgeOf rs n r))
theorem cross_mem (a : Int) : (0 : Int) ∈ (List.range 256).map (fun (x : Nat) => cross a (a + (x : Int))) ∧ (1 : Int) ∈ (List.range 256).map (fun (x : Nat) => cross a (a + (x : Int))) := by
  constructor
  · refine List.mem_map.mpr ⟨0, List.mem_range.mpr (by decide), ?_⟩
    unfold cross
    exact if_pos (by rw [show a + ((0 : Nat) : Int) = a from Int.add_zero a])
  · refine List.mem_map.mpr ⟨255, List.mem_range.mpr (by decide), ?_⟩
    unfold cross
    exact if_neg (by show ¬ a / 32 = (a + ((255 : Nat) : Int)) / 32; omega)
theorem cross_all {a m : Int} (h : m ∈ (List.range 256).map (fun (x : Nat) => cross a (a + (x : Int)))) : 0 ≤ m ∧ m ≤ 1 := by
  obtain ⟨x, _, rfl⟩ := List.mem_map.mp h
  exact cross_le _ _
theorem rep_get {α : Type} {n j : Nat} {x y : α} (h : (List.replicate n x)[j]? = some y) : y = x := by
  rw [List.getElem?_replicate] at h
  split at h
  · exact (Option.some.inj h).symm
  · cases h
abbrev slC (p sg : Addr) (n : Nat) (r : Row) (lo hi o : Int) (x2 x3 x4 : Option V) : L2.St := [some (.ref p), some (.ref sg), some (.int (n : Int)), some (.int 0), some (.int 255), some (.int 0), some (.str r.mark), some (.str r.deed), some r.val, some (.int lo), some (.int hi), some (.int o), x2, x3, x4]
def sp_comes_of : Sp := fun vs H Q _ => ∃ (p sg : Addr) (rs : List Row) (b : Int) (n g : Nat) (r : Row), vs = [.ref p, .ref sg, .int (n : Int), .int 0, .int 255, .int 0] ∧ ProgAt H p rs ∧ SignsAt H sg b rs ∧ rs[n]? = some r ∧ RowOk rs g n r ∧ g ≤ rs.length ∧ rs.length ≤ 120 ∧
  ∀ H' l cs, Same H H' → ComesOk b rs n r cs → CsAt H' l cs → Q (.ref l) H'
theorem sc_comes_of : FnScope ["program", "signs", "row", "low", "high", "zero", "mark", "deed", "value", "least", "most", "other", "begin", "end", "flag"] ["program", "signs", "row", "low", "high", "zero"] (defScope (topS 32)) := ⟨rfl, rfl, rfl, by decide +kernel, rfl, by decide +kernel, by decide +kernel⟩
theorem ok_comes_of (T : Txt K mg) : Ok P w K mg base 4 "comes_of" ["program", "signs", "row", "low", "high", "zero"] (sp_comes_of) := by
  obtain ⟨fd, F⟩ := T.d_comes_of
  obtain ⟨fd_if_comes, G_if_comes, kp_if_comes, b_if_comes⟩ := ok_if_comes (P := P) (w := w) (base := base) T
  obtain ⟨fd_beat_count, G_beat_count, kp_beat_count, b_beat_count⟩ := ok_beat_count (P := P) (w := w) (base := base) T
  obtain ⟨fd_row_of, G_row_of, kp_row_of, b_row_of⟩ := ok_row_of (P := P) (w := w) (base := base) T
  obtain ⟨fd_x_behind, G_x_behind, kp_x_behind, b_x_behind⟩ := ok_x_behind (P := P) (w := w) (base := base) T
  refine ⟨fd, F.ok sc_comes_of (fun vs H Q E h => ?_) (fun cdv A outer s H vs Q E hr h => ?_), F.kp, F.bindsN fun _ _ _ _ _ _ us hl => match us, hl with | [_, _, _, _, _, _], _ => rfl⟩
  · obtain ⟨p, sg, rs, b, n, g, r, rfl, _⟩ := h
    rfl
  · obtain ⟨p, sg, rs, b, n, g, r, rfl, hp, hsg, hn, ok, hg, hl, q⟩ := h
    have hu := hu_of hr
    refine ⟨_, PSs.nox (pss_cons (ps_asg (pe_ix ix_tup (pv 0) (pv 2) (fun _ _ => rfl)) (pg_tup rfl (pgs_cons (pg_name (i := 6) sc_comes_of.nd rfl (by first | exact Or.inl rfl | exact Or.inr rfl)) (pgs_cons (pg_name (i := 7) sc_comes_of.nd rfl (by first | exact Or.inl rfl | exact Or.inr rfl)) (pgs_cons (pg_name (i := 8) sc_comes_of.nd rfl (by first | exact Or.inl rfl | exact Or.inr rfl)) pgs_nil)))))
      (pss_cons (ps_if (pt_cmpR op_in_seq (pv 7) (pe_tup (pa_cons pe_str (pa_cons pe_str (pa_cons pe_str (pa_cons pe_str pa_nil))))) (by rfl))
      (pss_one (ps_ret (pe_call G_if_comes hr (by rfl) T.g_if_comes kp_if_comes b_if_comes .nil pass0 (pa_cons (pv 0) (pa_cons (pv 1) (pa_cons (pv 2) (pa_cons (pe_tup (pa_cons (pv 3) (pa_cons (pv 4) (pa_cons (pv 5) pa_nil)))) pa_nil)))))))
      pss_nil)
      (pss_cons (ps_set (i := 9) sc_comes_of.nd rfl (by first | exact Or.inl rfl | exact Or.inr rfl) (pe_call G_beat_count (hr.mono (by decide)) (by rfl) T.g_beat_count kp_beat_count b_beat_count .nil pass0 (pa_cons (pv 7) pa_nil)))
      (pss_cons (ps_set (i := 10) sc_comes_of.nd rfl (by first | exact Or.inl rfl | exact Or.inr rfl) (pv 9))
      (pss_cons (ps_set (i := 11) sc_comes_of.nd rfl (by first | exact Or.inl rfl | exact Or.inr rfl) (pe_op op_add (pv 2) pe_int))
      (Evl.pss_cut (ps_if (pt_cmpR op_eq (pv 7) pe_str (nomark _))
      (pss_cons (ps_set (i := 9) sc_comes_of.nd rfl (by first | exact Or.inl rfl | exact Or.inr rfl) (pe_op op_add (pv 9) (pe_callB (R65.cr_minT rfl) (by rfl) T.z_min (by decide +kernel) (pa_cons (pe_slice sl_tupA (pe_ix ix_tup (pv 1) (pv 2) (fun _ _ => rfl)) (po_some (pv 3)) (po_some (pe_op op_add (pv 4) pe_int))) pa_nil))))
      (pss_one (ps_set (i := 10) sc_comes_of.nd rfl (by first | exact Or.inl rfl | exact Or.inr rfl) (pe_op op_add (pv 10) (pe_callB (R65.cr_maxT rfl) (by rfl) T.z_max (by decide +kernel) (pa_cons (pe_slice sl_tupA (pe_ix ix_tup (pv 1) (pv 2) (fun _ _ => rfl)) (po_some (pv 3)) (po_some (pe_op op_add (pv 4) pe_int))) pa_nil))))))
      pss_nil)
      (Evl.pss_cut (ps_if (pt_cmpR op_eq (pv 7) pe_str (nomark _))
      (pss_one (ps_set (i := 11) sc_comes_of.nd rfl (by first | exact Or.inl rfl | exact Or.inr rfl) (pe_call G_row_of (hr.mono (by decide)) (by rfl) T.g_row_of kp_row_of b_row_of .nil pass0 (pa_cons (pv 0) (pa_cons (pv 8) pa_nil)))))
      pss_nil)
      (pss_one (ps_ret (pe_lc (own := [("begin", 12), ("end", 13), ("flag", 14)]) rfl sc_comes_of.nd (pi_list (pe_call G_x_behind (hr.mono (by decide)) (by rfl) T.g_x_behind kp_x_behind b_x_behind .nil pass0 (pa_cons (pv 7) (pa_cons (pv 8) (pa_cons (pv 3) (pa_cons (pv 4) (pa_cons (pv 5) pa_nil))))))) (blkOk_by (N := ["program", "signs", "row", "low", "high", "zero", "mark", "deed", "value", "least", "most", "other", "begin", "end", "flag"]) (sc := defScope (topS 32)) (by decide +kernel)) (fun _ _ _ _ _ => (R65.pg_tupK (K := K) (n := 3) rfl rfl (pgs_cons (pg_name (i := 12) sc_comes_of.nd rfl (by first | exact Or.inl rfl | exact Or.inr rfl)) (pgs_cons (pg_name (i := 13) sc_comes_of.nd rfl (by first | exact Or.inl rfl | exact Or.inr rfl)) (pgs_cons (pg_name (i := 14) sc_comes_of.nd rfl (by first | exact Or.inl rfl | exact Or.inr rfl)) pgs_nil))))) (fun _ _ _ _ _ => pts_nil) (fun _ _ _ _ _ => (pe_tup (pa_cons (pv 11) (pa_cons (pv 12) (pa_cons (pv 13) (pa_cons (pv 14) (pa_cons (pv 9) (pa_cons (pv 10) pa_nil)))))))))))))))))), ?_⟩
    obtain ⟨xs, a, h1, h2, h3⟩ := hp.row hn
    refine ⟨_, rfl, _, rfl, _, _, _, _, rfl, rfl, sqT h1, h2, a, _, rfl, sqT h3, rfl, _, _, rfl, _, _, rfl, _, _, rfl, rfl, ?_⟩
    refine ⟨_, rfl, by show 4 ≤ sizeLine; decide, fun w nw => ⟨_, _, rfl, .inr (sqT upd_same), rfl, rfl, _, rfl, ?_⟩⟩
    rw [inStr4]
    have sw := same_new (o := .tup [.str "ifz", .str "ifn", .str "ifc", .str "ifd"]) nw
    refine ite2 (fun e => ?_) (fun e => ?_)
    · refine ⟨_, rfl, _, rfl, _, rfl, _, rfl, _, rfl, _, rfl, by show 3 ≤ sizeLine; decide, fun xt nxt => ?_⟩
      have s2 := sw.trans (same_new (o := .tup [.int 0, .int 255, .int 0]) nxt)
      exact ⟨p, sg, xt, rs, b, n, g, r, rfl, hp.same s2, hsg.same s2, upd_same, hn, ok, hg, hl, e, fun H' l cs s3 pe ce => q H' l cs (s2.trans s3) (.inl ⟨e, pe⟩) ce⟩
    have e : dm sIF r.deed = false := by
      cases z : dm sIF r.deed with
      | true => exact absurd z e
      | false => rfl
    refine ⟨_, rfl, _, rfl, _, rfl, _, rfl, _, _, rfl, rfl, ?_⟩
    generalize hH1 : upd H w (.tup [.str "ifz", .str "ifn", .str "ifc", .str "ifd"]) = H1 at *
    have hp1 := hp.same sw
    refine ⟨fun σ' H' => ∃ x2 x3 x4 x5, σ' = slC p sg n r (beatsOf r.deed) (beatsOf r.deed + (if r.deed = "at" then 1 else 0)) ((n + 1 : Nat) : Int) x2 x3 x4 ∧ x5 = 0 ∧ Same H1 H', ?_, ?_⟩
    · refine ⟨_, rfl, rfl, _, rfl, ?_⟩
      rw [bl_str]
      refine ite2 (fun ea => ?_) (fun ea => ?_)
      · have ed := of_decide_eq_true ea
        obtain ⟨sv, g1, g2, g3⟩ := hsg.same sw
        have hnl : n < rs.length := (List.getElem?_eq_some_iff.mp hn).1
        obtain ⟨v, hv⟩ : ∃ v, sv[n]? = some v := ⟨sv[n]'(by omega), List.getElem?_eq_getElem _⟩
        obtain ⟨t, rfl, ht⟩ := (g3 n r v hn hv).2 ed
        have len256 : ∀ (l : List Int), l.length = 256 → HT.sIx (l.map V.int).length 0 (some 0) = 0 ∧ HT.sIx (l.map V.int).length (l.map V.int).length (some (255 + 1)) = (l.map V.int).length := fun l hl => by
          rw [List.length_map, hl]
          decide
        have l1 : ((List.range 256).map fun (x : Nat) => cross (adrOf b rs (tgt rs r)) (adrOf b rs (tgt rs r) + (x : Int))).length = 256 := by rw [List.length_map, List.length_range]
        refine ⟨_, rfl, _, rfl, _, rfl, sg, _, _, _, rfl, rfl, sqT g1, atI_nat hv, _, rfl, 0, rfl, _, rfl, _, _, rfl, rfl, _, rfl, t, _, rfl, sqT ht, fun _ => ?_, fun z => absurd (len256 _ l1) z⟩
        refine ⟨t, _, rfl, sqT ht, by rw [l1]; decide, fun m1 hm1 hall1 => ⟨_, _, rfl, rfl, ?_⟩⟩
        refine ⟨_, rfl, _, rfl, _, rfl, sg, _, _, _, rfl, rfl, sqT g1, atI_nat hv, _, rfl, 0, rfl, _, rfl, _, _, rfl, rfl, _, rfl, t, _, rfl, sqT ht, fun _ => ?_, fun z => absurd (len256 _ l1) z⟩
        refine ⟨t, _, rfl, sqT ht, by rw [l1]; decide, fun m2 hm2 hall2 => ⟨_, _, rfl, rfl, ?_⟩⟩
        have e1 : m1 = 0 := by
          have a1 := hall1 0 (cross_mem _).1
          have a2 := cross_all hm1
          omega
        have e2 : m2 = 1 := by
          have a1 := hall2 1 (cross_mem _).2
          have a2 := cross_all hm2
          omega
        subst e1 e2
        refine ⟨none, none, none, 0, ?_, rfl, Same.refl _⟩
        rw [if_pos ed]
        exact congrArg (fun z => slC p sg n r z (beatsOf r.deed + 1) ((n + 1 : Nat) : Int) none none none) (Int.add_zero _)
      · refine ⟨none, none, none, 0, ?_, rfl, Same.refl _⟩
        rw [if_neg (fun z => ea (decide_eq_true z)), Int.add_zero]
        rfl
    · rintro σ' H2 ⟨x2, x3, x4, x5, rfl, rfl, s2⟩
      refine ⟨fun σ' H' => ∃ x2 x3 x4 x5, σ' = slC p sg n r (beatsOf r.deed) (beatsOf r.deed + (if r.deed = "at" then 1 else 0)) (((edgeOf rs n r).1 : Nat) : Int) x2 x3 x4 ∧ x5 = 0 ∧ Same H1 H', ?_, ?_⟩
      · refine ⟨_, rfl, rfl, _, rfl, ?_⟩
        rw [bl_str]
        refine ite2 (fun ea => ?_) (fun ea => ?_)
        · obtain ⟨m, ev, hm, hm2⟩ := ok.jump (.inr (of_decide_eq_true ea))
          refine ⟨_, rfl, _, rfl, p, rs, m, by rw [ev]; rfl, hp1.same s2, hm, hl, fun H3 s3 => ?_⟩
          refine ⟨x2, x3, x4, 0, ?_, rfl, s2.trans s3⟩
          have e9 : (edgeOf rs n r).1 = ixOf m (marks rs) := by
            unfold edgeOf
            rw [if_pos (of_decide_eq_true ea), tgt_eq ev]
          rw [e9]
          rfl
        · refine ⟨x2, x3, x4, 0, ?_, rfl, s2⟩
          have e9 : (edgeOf rs n r).1 = n + 1 := by
            unfold edgeOf
            rw [if_neg (fun z => ea (decide_eq_true z))]
          rw [e9]
      · rintro σ' H3 ⟨x2, x3, x4, x5, rfl, rfl, s3⟩
        refine ⟨_, rfl, _, rfl, _, rfl, _, rfl, _, rfl, r.deed, r.val, rfl, fun H4 l k s4 hc hk => ?_⟩
        obtain ⟨as, c1, c2, c3⟩ := hc
        refine ⟨l, rfl, ⟨_, sqL c1⟩, fun D nD => ?_⟩
        refine lc_st (walk_list (K := K) (a := l) (xs := as.map V.ref)) (fun i acc H' => Same H4 H' ∧ ∃ bs : List Addr, acc = bs.map V.ref ∧ bs.length = i ∧ ∀ a ∈ bs, ∃ x y z, H' a = some (.tup [.int (((edgeOf rs n r).1 : Nat) : Int), x, y, z, .int (beatsOf r.deed), .int (beatsOf r.deed + (if r.deed = "at" then 1 else 0))])) ⟨same_new nD, [], rfl, rfl, fun a ha => by cases ha⟩
          (fun i acc _ _ H' hD ⟨s, bs, e1, e2, f⟩ => ⟨same_mut s nD, bs, e1, e2, fun a ha => let ⟨x, y, z, e⟩ := f a ha; ⟨x, y, z, (NL.upd hD).tup e⟩⟩) (fun i acc H' _ ⟨s, _⟩ => sqL (s _ _ c1)) (fun i acc H' hi ⟨s, bs, e1, e2, f⟩ => by rw [List.length_map] at hi; rw [e1, List.length_map, e2]; exact szl (by omega))
          (fun i x acc H5 H6 hi eD ⟨s, bs, e1, e2, f⟩ ⟨eH, ex⟩ Qy Qn ky kn => ?_) (fun acc H' eD ⟨s, bs, e1, e2, f⟩ => ?_)
        · subst eH
          rw [List.getElem?_map] at ex
          cases z : as[i]? with
          | none => rw [z] at ex; cases ex
          | some c =>
            rw [z] at ex
            cases ex
            obtain ⟨x, y, u, hc⟩ := c3 c (List.mem_of_getElem? z)
            refine ⟨c, _, rfl, sqT (s _ _ hc), rfl, _, _, rfl, _, _, rfl, _, _, rfl, rfl, rfl, _, rfl, _, rfl, _, rfl, _, rfl, _, rfl, _, rfl, by show 6 ≤ sizeLine; decide, fun a na => ky _ _ (same_new na _ _ eD) ⟨same_then s na, bs ++ [a], by rw [e1, List.map_append]; rfl, by rw [List.length_append, e2]; rfl, fun b9 hb => ?_⟩⟩
            rcases List.mem_append.mp hb with hb | hb
            · obtain ⟨x, y, z, e⟩ := f b9 hb
              exact ⟨x, y, z, same_new na _ _ e⟩
            · rw [List.mem_singleton.mp hb]
              exact ⟨_, _, _, upd_same⟩
        · rw [List.length_map, c2] at e2
          refine q H' D _ (((sw.trans s3).trans s4).trans s) (.inr ⟨e, k, hk, rfl⟩) ⟨bs, by rw [eD, e1], by rw [e2, List.length_replicate], fun j e9 a9 z1 z2 => ?_⟩
          rw [rep_get z1]
          exact f a9 (List.mem_of_getElem? z2)
end
end B65

end

section
set_option Elab.async false
set_option linter.all false
set_option maxRecDepth 100000
set_option maxHeartbeats 1000000
namespace B65
open PySem PySem.Spec PyProof.Rows L2
section
variable {P : Program} {w : World} {K : PySem.W.Frag} {mg : Str → Option Value} {base : Heap}
/-- all but d stands as before -/
def SB (d : Addr) (H H' : Hp) : Prop := ∀ b o, b ≠ d → H b = some o → H' b = some o
theorem SB.refl (d : Addr) (H : Hp) : SB d H H := fun _ _ _ e => e
theorem SB.of {d : Addr} {H H' : Hp} (s : Same H H') : SB d H H' := fun b o _ e => s b o e
theorem SB.trans {d : Addr} {H H1 H2 : Hp} (a : SB d H H1) (b : SB d H1 H2) : SB d H H2 := fun c o n e => b c o n (a c o n e)
theorem SB.upd {d : Addr} {H : Hp} {o : HO} : SB d H (upd H d o) := fun b u n e => by rw [upd_ne n]; exact e
theorem SB.same {d : Addr} {H0 H H' : Hp} (a : Same H0 H) (n : H0 d = none) (b : SB d H H') : Same H0 H' := fun c o e => b c o (ne_of_none e n) (a c o e)
/-- a dict of a row's steps stands at d -/
def DictAt (H : Hp) (d : Addr) (es : List Edge) : Prop := ∃ kvs : List (Key × V), H d = some (.dK kvs) ∧ kvs.length = es.length ∧ ∀ (i : Nat) (e : Edge), es[i]? = some e → ∃ t, kvs[i]? = some (Sum.inl (e.1 : Int), .ref t) ∧ H t = some (.tup [.int e.2.1, .int e.2.2])
theorem DictAt.nl {H H' : Hp} {d : Addr} {es : List Edge} (s : NL H H') (h : DictAt H d es) : DictAt H' d es := by
  obtain ⟨kvs, h1, h2, h3⟩ := h
  exact ⟨kvs, s _ _ h1 (fun _ z => by cases z), h2, fun i e q => let ⟨t, a, b⟩ := h3 i e q; ⟨t, a, s.tup b⟩⟩
def fold2 : List Edge → List Edge
  | [] => []
  | [c] => [c]
  | c :: d :: _ => if c.1 = d.1 then [(c.1, (if d.2.1 < c.2.1 then d.2.1 else c.2.1), (if d.2.2 > c.2.2 then d.2.2 else c.2.2))] else [c, d]
theorem fold2_pair (c d : Edge) : fold2 [c, d] = if c.1 = d.1 then [(c.1, (if d.2.1 < c.2.1 then d.2.1 else c.2.1), (if d.2.2 > c.2.2 then d.2.2 else c.2.2))] else [c, d] := rfl
/-- the steps of a row: where to, least, most; rising -/
def nxOf (b : Int) (rs : List Row) (n : Nat) : List Edge := match rs[n]? with
  | none => []
  | some r => if r.deed = "data" then [] else if dm sIF r.deed = true then
      (if tgt rs r < n + 1 then [(tgt rs r, farOf b rs n r, farOf b rs n r), (n + 1, 2, 2)] else if tgt rs r = n + 1 then [(n + 1, 2, farOf b rs n r)] else [(n + 1, 2, 2), (tgt rs r, farOf b rs n r, farOf b rs n r)])
    else [edgeOf rs n r]
theorem fold_ok {b : Int} {rs : List Row} {n : Nat} {r : Row} {cs : List Edge} (hn : rs[n]? = some r) (nd : r.deed ≠ "data") (h : ComesOk b rs n r cs) : (fold2 cs).Perm (nxOf b rs n) := by
  unfold nxOf
  rw [hn]
  show (fold2 cs).Perm (if r.deed = "data" then [] else _)
  rw [if_neg nd]
  rcases h with ⟨h1, h2⟩ | ⟨h1, k, hk, h2⟩
  · rw [if_pos h1]
    have hf := far_le b rs n r
    rcases perm2 h2 with e | e <;> rw [e]
    · rw [fold2_pair]
      by_cases e1 : tgt rs r < n + 1
      · rw [if_pos e1, if_neg (show ¬ n + 1 = tgt rs r by omega)]
        exact List.Perm.swap _ _ _
      · rw [if_neg e1]
        by_cases e2 : tgt rs r = n + 1
        · rw [if_pos e2, if_pos (show n + 1 = tgt rs r by omega)]
          show [((n + 1, (if farOf b rs n r < 2 then farOf b rs n r else 2), (if farOf b rs n r > 2 then farOf b rs n r else 2)) : Edge)].Perm _
          rw [if_neg (by omega), if_pos (by omega)]
        · rw [if_neg e2, if_neg (show ¬ n + 1 = tgt rs r by omega)]
    · rw [fold2_pair]
      by_cases e1 : tgt rs r < n + 1
      · rw [if_pos e1, if_neg (show ¬ tgt rs r = n + 1 by omega)]
      · rw [if_neg e1]
        by_cases e2 : tgt rs r = n + 1
        · rw [if_pos e2, if_pos (show tgt rs r = n + 1 by omega)]
          show [((tgt rs r, (if 2 < farOf b rs n r then 2 else farOf b rs n r), (if 2 > farOf b rs n r then 2 else farOf b rs n r)) : Edge)].Perm _
          rw [if_pos (by omega), if_neg (by omega), e2]
        · rw [if_neg e2, if_neg (show ¬ tgt rs r = n + 1 by omega)]
          exact List.Perm.swap _ _ _
  · rw [if_neg (by rw [h1]; decide), h2]
    rcases hk with e | e <;> subst e
    · exact List.Perm.refl _
    · show (fold2 [edgeOf rs n r, edgeOf rs n r]).Perm _
      rw [fold2_pair, if_pos rfl, if_neg (Int.lt_irrefl _), if_neg (Int.lt_irrefl _)]
theorem comes_len {b : Int} {rs : List Row} {n : Nat} {r : Row} {cs : List Edge} (h : ComesOk b rs n r cs) : cs.length ≤ 2 := by
  rcases h with ⟨_, h⟩ | ⟨_, k, hk, h⟩
  · rw [h.length_eq]; exact Nat.le_refl _
  · rw [h, List.length_replicate]; omega
def sp_steps_of : Sp := fun vs H Q _ => ∃ (p sg : Addr) (rs : List Row) (b : Int) (n g : Nat) (r : Row), vs = [.ref p, .ref sg, .int (n : Int)] ∧ ProgAt H p rs ∧ SignsAt H sg b rs ∧ rs[n]? = some r ∧ RowOk rs g n r ∧ g ≤ rs.length ∧ rs.length ≤ 120 ∧
  ∀ H' d es, Same H H' → es.Perm (nxOf b rs n) → DictAt H' d es → Q (.ref d) H'
theorem sc_steps_of : FnScope ["program", "signs", "row", "found", "come", "least", "most"] ["program", "signs", "row"] (defScope (topS 40)) := ⟨rfl, rfl, rfl, by decide +kernel, rfl, by decide +kernel, by decide +kernel⟩
theorem ok_steps_of (T : Txt K mg) : Ok P w K mg base 5 "steps_of" ["program", "signs", "row"] (sp_steps_of) := by
  obtain ⟨fd, F⟩ := T.d_steps_of
  obtain ⟨fd_is_table, G_is_table, kp_is_table, b_is_table⟩ := ok_is_table (P := P) (w := w) (base := base) T
  obtain ⟨fd_comes_of, G_comes_of, kp_comes_of, b_comes_of⟩ := ok_comes_of (P := P) (w := w) (base := base) T
  obtain ⟨tMOST_BYTE_spans, hMOST_BYTE_spans⟩ := T.n_MOST_BYTE_spans
  refine ⟨fd, F.ok sc_steps_of (fun vs H Q E h => ?_) (fun cdv A outer s H vs Q E hr h => ?_), F.kp, F.bindsN fun _ _ _ _ _ _ us hl => match us, hl with | [_, _, _], _ => rfl⟩
  · obtain ⟨p, sg, rs, b, n, g, r, rfl, _⟩ := h
    rfl
  · obtain ⟨p, sg, rs, b, n, g, r, rfl, hp, hsg, hn, ok, hg, hl, q⟩ := h
    have hu := hu_of hr
    refine ⟨_, PSs.nox (pss_cons (ps_set (i := 3) sc_steps_of.nd rfl (by first | exact Or.inl rfl | exact Or.inr rfl) pe_dnewK)
      (pss_cons (ps_if (pt_val (pe_call G_is_table (hr.mono (by decide)) (by rfl) T.g_is_table kp_is_table b_is_table .nil pass0 (pa_cons (pe_ix ix_tup (pv 0) (pv 2) (fun _ _ => rfl)) pa_nil)))
      (pss_one (ps_ret (pv 3)))
      pss_nil)
      (pss_cons (ps_for PassesOwn.never rfl (pi_list (pe_call G_comes_of hr (by rfl) T.g_comes_of kp_comes_of b_comes_of .nil pass0 (pa_cons (pv 0) (pa_cons (pv 1) (pa_cons (pv 2) (pa_cons pe_int (pa_cons (pe_glob (v := .int 255) (by rfl) hMOST_BYTE_spans ⟨_, rfl⟩) (pa_cons pe_int pa_nil)))))))) (pg_name (i := 4) sc_steps_of.nd rfl (by first | exact Or.inl rfl | exact Or.inr rfl))
      (pss_cons (ps_asg (pe_dget2 hu (pv 3) (pe_ix ix_tup (pv 4) pe_int (fun _ _ => rfl)) (pe_tup (pa_cons (pe_ix ix_tup (pv 4) pe_int (fun _ _ => rfl)) (pa_cons (pe_ix ix_tup (pv 4) pe_int (fun _ _ => rfl)) pa_nil))) ⟨rfl, rfl, rfl, rfl⟩) (pg_tup rfl (pgs_cons (pg_name (i := 5) sc_steps_of.nd rfl (by first | exact Or.inl rfl | exact Or.inr rfl)) (pgs_cons (pg_name (i := 6) sc_steps_of.nd rfl (by first | exact Or.inl rfl | exact Or.inr rfl)) pgs_nil))))
      (pss_one (ps_dput hu (pv 3) (pe_ix ix_tup (pv 4) pe_int (fun _ _ => rfl)) (pe_tup (pa_cons (pe_callB (call_min2 rfl) (by rfl) T.z_min (by decide +kernel) (pa_cons (pv 5) (pa_cons (pe_ix ix_tup (pv 4) pe_int (fun _ _ => rfl)) pa_nil))) (pa_cons (pe_callB (call_max2 rfl) (by rfl) T.z_max (by decide +kernel) (pa_cons (pv 6) (pa_cons (pe_ix ix_tup (pv 4) pe_int (fun _ _ => rfl)) pa_nil))) pa_nil))) rfl))))
      (pss_one (ps_ret (pv 3)))))), ?_⟩
    intro d nd
    have sd := same_new (o := .dK []) nd
    have ed : upd H d (.dK []) d = some (.dK []) := upd_same
    generalize upd H d (.dK []) = H0 at *
    have hp0 := hp.same sd
    obtain ⟨xs, a, h1, h2, h3⟩ := hp0.row hn
    refine ⟨_, rfl, _, rfl, _, _, _, _, rfl, rfl, sqT h1, h2, a, r, rfl, h3, _, rfl, ite2 (fun e => ?_) (fun e => ?_)⟩
    · refine ⟨_, rfl, q _ d [] sd ?_ ⟨[], ed, rfl, fun i e z => by simp at z⟩⟩
      unfold nxOf
      rw [hn]
      show List.Perm [] (if r.deed = "data" then [] else _)
      rw [if_pos (of_decide_eq_true e)]
    have nd2 : r.deed ≠ "data" := fun z => e (decide_eq_true z)
    refine ⟨_, rfl, _, rfl, _, rfl, p, sg, rs, b, n, g, r, rfl, hp0, hsg.same sd, hn, ok, hg, hl, fun H1 l cs s1 hcs hc => ?_⟩
    obtain ⟨as, c1, c2, c3⟩ := hc
    have hlen := comes_len hcs
    refine ⟨l, rfl, ⟨_, sqL c1⟩, for_it (walk_list (K := K) (a := l) (xs := as.map V.ref)) (fun i σ H' => ∃ x1 x2 x3, σ = [some (.ref p), some (.ref sg), some (.int (n : Int)), some (.ref d), x1, x2, x3] ∧ SB d H1 H' ∧ DictAt H' d (fold2 (cs.take i)))
      ⟨none, none, none, rfl, SB.refl _ _, [], s1 _ _ ed, rfl, fun i e z => by simp [fold2] at z⟩ (fun i σ H' _ ⟨_, _, _, _, s, _⟩ => sqL (s _ _ (ne_of c1 (s1 _ _ ed) (fun z => by cases z)) c1)) ?_ ?_⟩
    · rintro i x σ H2 H' hi ⟨x1, x2, x3, rfl, s, hd⟩ ⟨rfl, ex⟩
      rw [List.length_map, c2] at hi
      have ei : cs[i]? = some cs[i] := List.getElem?_eq_getElem hi
      rw [List.getElem?_map] at ex
      obtain ⟨c, hc⟩ : ∃ c, as[i]? = some c := ⟨as[i]'(by omega), List.getElem?_eq_getElem _⟩
      rw [hc] at ex
      cases ex
      obtain ⟨x, y, z, ht⟩ := c3 i _ c ei hc
      have nc : c ≠ d := ne_of ht (s1 _ _ ed) (fun z => by cases z)
      have ht' := s _ _ nc ht
      obtain ⟨kvs, k1, k2, k3⟩ := hd
      generalize hce : cs[i] = ce at *
      -- the pair from the dict
      have look : ∃ (o : Option V) (lo hi : Int), DGet H' d (.int (ce.1 : Int)) o ∧ kvs.length < 3 ∧
          (∀ (t : Addr) (H3 : Hp), Same H' H3 → H3 t = some (.tup [.int ce.2.1, .int ce.2.2]) → ∃ u, o.getD (.ref t) = .ref u ∧ H3 u = some (.tup [.int lo, .int hi])) ∧
          (∀ (u : Addr) (H3 : Hp), Same H' H3 → u ≠ d → H3 u = some (.tup [.int (if ce.2.1 < lo then ce.2.1 else lo), .int (if ce.2.2 > hi then ce.2.2 else hi)]) → DictAt (upd H3 d (.dK (putK kvs (Sum.inl (ce.1 : Int)) (.ref u)))) d (fold2 (cs.take (i + 1)))) := by
        match i, hi, ei, k2, k3 with
        | 0, hi, ei, k2, k3 =>
          have ek : kvs = [] := List.eq_nil_of_length_eq_zero k2
          subst ek
          refine ⟨none, ce.2.1, ce.2.2, DGet.k (k := Sum.inl (ce.1 : Int)) k1, by decide, fun t H3 s3 e3 => ⟨t, rfl, e3⟩, fun u H3 s3 nu e3 => ?_⟩
          rw [if_neg (Int.lt_irrefl _), if_neg (Int.lt_irrefl _)] at e3
          have et : cs.take 1 = [ce] := by rw [List.take_add_one, ei]; rfl
          rw [et]
          refine ⟨_, upd_same, rfl, fun j e9 z9 => ?_⟩
          match j, z9 with
          | 0, z9 =>
            cases z9
            exact ⟨u, rfl, upd_at e3 nu⟩
          | j + 1, z9 => simp [fold2] at z9
        | 1, hi, ei, k2, k3 =>
          have hi0 : 0 < cs.length := by omega
          have e0 : cs[0]? = some cs[0] := List.getElem?_eq_getElem hi0
          have et1 : cs.take 1 = [cs[0]] := by rw [List.take_add_one, e0]; rfl
          have et2 : cs.take (1 + 1) = [cs[0], ce] := by rw [List.take_add_one, ei, et1]; rfl
          rw [et1] at k2 k3
          obtain ⟨t0, q0, q1⟩ := k3 0 cs[0] rfl
          have ek : kvs = [(Sum.inl (cs[0].1 : Int), .ref t0)] := by
            match kvs, k2, q0 with
            | [kv], _, q0 => exact congrArg (fun z => [z]) (Option.some.inj q0)
          rw [ek]
          rw [ek] at k1
          rw [et2]
          generalize cs[0] = c0 at *
          have nt0 : t0 ≠ d := ne_of q1 k1 (fun z => by cases z)
          by_cases he : c0.1 = ce.1
          · refine ⟨some (.ref t0), c0.2.1, c0.2.2, ?_, (by show 1 < 3; decide), fun t H3 s3 e3 => ⟨t0, rfl, s3 _ _ q1⟩, fun u H3 s3 nu e3 => ?_⟩
            · have e9 : valV [((Sum.inl (c0.1 : Int) : Key), V.ref t0)] (Sum.inl (ce.1 : Int)) = some (.ref t0) := valV_pos (p := (Sum.inl (c0.1 : Int), V.ref t0)) (by rw [he])
              rw [← e9]
              exact DGet.k (k := Sum.inl (ce.1 : Int)) k1
            · have e9 : putK [((Sum.inl (c0.1 : Int) : Key), V.ref t0)] (Sum.inl (ce.1 : Int)) (.ref u) = [(Sum.inl (c0.1 : Int), .ref u)] := by
                unfold putK
                rw [he]
                simp
              rw [e9]
              rw [fold2_pair, if_pos he]
              refine ⟨_, upd_same, rfl, fun j e9 z9 => ?_⟩
              match j, z9 with
              | 0, z9 =>
                cases z9
                exact ⟨u, rfl, upd_at e3 nu⟩
              | j + 1, z9 => simp at z9
          · have hk : ¬ ((Sum.inl (c0.1 : Int) : Key) = Sum.inl (ce.1 : Int)) := fun z => he (by have := Sum.inl.inj z; omega)
            have e9 : valV [((Sum.inl (c0.1 : Int) : Key), V.ref t0)] (Sum.inl (ce.1 : Int)) = none := (valV_neg (p := (Sum.inl (c0.1 : Int), V.ref t0)) hk).trans rfl
            refine ⟨none, ce.2.1, ce.2.2, ?_, (by show 1 < 3; decide), fun t H3 s3 e3 => ⟨t, rfl, e3⟩, fun u H3 s3 nu e3 => ?_⟩
            · rw [← e9]
              exact DGet.k (k := Sum.inl (ce.1 : Int)) k1
            · rw [if_neg (Int.lt_irrefl _), if_neg (Int.lt_irrefl _)] at e3
              rw [putK_new _ e9]
              rw [fold2_pair, if_neg he]
              refine ⟨_, upd_same, rfl, fun j e9 z9 => ?_⟩
              match j, z9 with
              | 0, z9 =>
                cases z9
                exact ⟨t0, rfl, upd_at (s3 _ _ q1) nt0⟩
              | 1, z9 =>
                cases z9
                exact ⟨u, rfl, upd_at e3 nu⟩
              | j + 2, z9 => simp at z9
        | i + 2, hi, ei, k2, k3 => omega
      obtain ⟨o, lo, hi9, g1, g2, g3, g4⟩ := look
      refine ⟨_, rfl, d, rfl, .inl ⟨_, .inl k1⟩, _, rfl, c, _, _, _, rfl, rfl, sqT ht', atI_nat (j := 0) rfl, _, rfl, c, _, _, _, rfl, rfl, sqT ht', atI_nat (j := 4) rfl, _, rfl, c, _, _, _, rfl, rfl, sqT ht', atI_nat (j := 5) rfl, by show 2 ≤ sizeLine; decide, fun t nt => ?_⟩
      have st := same_new (o := .tup [.int ce.2.1, .int ce.2.2]) nt
      have et : upd H' t (.tup [.int ce.2.1, .int ce.2.2]) t = some (.tup [.int ce.2.1, .int ce.2.2]) := upd_same
      generalize upd H' t (.tup [.int ce.2.1, .int ce.2.2]) = H3 at *
      obtain ⟨u0, eu0, hu0⟩ := g3 t H3 st et
      have g1' : DGet H3 d (.int (ce.1 : Int)) o := by
        rcases g1 with ⟨kv, k, a1, a2, a3⟩ | ⟨kv, k, b9, a1, a2, a3, a4⟩
        · refine .inl ⟨kv, k, ?_, a2, a3⟩
          rcases a1 with a1 | ⟨o9, a1⟩
          · exact .inl (st _ _ a1)
          · exact .inr ⟨o9, st _ _ a1⟩
        · cases a2
      refine ⟨o, g1', u0, _, eu0, sqT hu0, rfl, _, _, rfl, _, _, rfl, rfl, ?_⟩
      have hc3 := st _ _ ht'
      refine ⟨_, rfl, _, rfl, c, _, _, _, rfl, rfl, sqT hc3, atI_nat (j := 4) rfl, _, _, rfl, _, rfl, _, rfl, c, _, _, _, rfl, rfl, sqT hc3, atI_nat (j := 5) rfl, _, _, rfl, by show 2 ≤ sizeLine; decide, fun u nu => ?_⟩
      have su := same_new (o := .tup [.int (if ce.2.1 < lo then ce.2.1 else lo), .int (if ce.2.2 > hi9 then ce.2.2 else hi9)]) nu
      have eu : upd H3 u (.tup [.int (if ce.2.1 < lo then ce.2.1 else lo), .int (if ce.2.2 > hi9 then ce.2.2 else hi9)]) u = some (.tup [.int (if ce.2.1 < lo then ce.2.1 else lo), .int (if ce.2.2 > hi9 then ce.2.2 else hi9)]) := upd_same
      generalize upd H3 u (.tup [.int (if ce.2.1 < lo then ce.2.1 else lo), .int (if ce.2.2 > hi9 then ce.2.2 else hi9)]) = H4 at *
      have kd : H4 d = some (.dK kvs) := su _ _ (st _ _ k1)
      refine ⟨_, rfl, _, rfl, c, _, _, _, rfl, rfl, sqT (su _ _ hc3), atI_nat (j := 0) rfl, d, _, rfl, DPut.k (k := Sum.inl (ce.1 : Int)) kd (szl (by omega)), ?_⟩
      exact ⟨_, _, _, rfl, s.trans ((SB.of (st.trans su)).trans SB.upd), g4 u H4 (st.trans su) (ne_of eu kd (fun z => by cases z)) eu⟩
    · rintro σ H' ⟨x1, x2, x3, rfl, s, hd⟩
      rw [List.length_map, c2, take_all] at hd
      exact ⟨_, rfl, q H' d _ (SB.same (sd.trans s1) nd s) (fold_ok hn nd2 hcs) hd⟩
end
end B65

end

section
set_option Elab.async false
set_option linter.all false
set_option maxRecDepth 100000
set_option maxHeartbeats 1000000
namespace B65
open PySem PySem.Spec PyProof.Rows L2
section
variable {P : Program} {w : World} {K : PySem.W.Frag} {mg : Str → Option Value} {base : Heap}
/-- the steps of all rows stand at s -/
def StepsAt (H : Hp) (s : Addr) (n : Nat) (G : Nat → List Edge) : Prop := ∃ ds : List Addr, H s = some (.lst (ds.map V.ref)) ∧ ds.length = n ∧ ∀ i, i < n → ∃ d es, ds[i]? = some d ∧ es.Perm (G i) ∧ DictAt H d es
theorem StepsAt.same {H H' : Hp} {s : Addr} {n : Nat} {G : Nat → List Edge} (h : Same H H') (x : StepsAt H s n G) : StepsAt H' s n G := by
  obtain ⟨ds, h1, h2, h3⟩ := x
  exact ⟨ds, h _ _ h1, h2, fun i hi => let ⟨d, es, a, b, c⟩ := h3 i hi; ⟨d, es, a, b, c.nl (NL.of h)⟩⟩
def sp_all_steps : Sp := fun vs H Q _ => ∃ (p : Addr) (rs : List Row) (b : Int) (g : Nat), vs = [.ref p, .int b] ∧ ProgAt H p rs ∧ rs.length ≤ 120 ∧ b + longOf rs ≤ 256 ∧ (∀ n r, rs[n]? = some r → RowOk rs g n r) ∧ g ≤ rs.length ∧ ∀ H' s, Same H H' → StepsAt H' s rs.length (nxOf b rs) → Q (.ref s) H'
theorem sc_all_steps : FnScope ["program", "base", "signs", "row"] ["program", "base"] (defScope (topS 41)) := ⟨rfl, rfl, rfl, by decide +kernel, rfl, by decide +kernel, by decide +kernel⟩
theorem ok_all_steps (T : Txt K mg) : Ok P w K mg base 6 "all_steps" ["program", "base"] (sp_all_steps) := by
  obtain ⟨fd, F⟩ := T.d_all_steps
  obtain ⟨fd_page_signs, G_page_signs, kp_page_signs, b_page_signs⟩ := ok_page_signs (P := P) (w := w) (base := base) T
  obtain ⟨fd_steps_of, G_steps_of, kp_steps_of, b_steps_of⟩ := ok_steps_of (P := P) (w := w) (base := base) T
  refine ⟨fd, F.ok sc_all_steps (fun vs H Q E h => ?_) (fun cdv A outer s H vs Q E hr h => ?_), F.kp, F.bindsN fun _ _ _ _ _ _ us hl => match us, hl with | [_, _], _ => rfl⟩
  · obtain ⟨p, rs, b, g, rfl, _⟩ := h
    rfl
  · obtain ⟨p, rs, b, g, rfl, hp, hl, hb, ok, hg, q⟩ := h
    have hu := hu_of hr
    refine ⟨_, PSs.nox (pss_cons (ps_set (i := 2) sc_all_steps.nd rfl (by first | exact Or.inl rfl | exact Or.inr rfl) (pe_call G_page_signs hr (by rfl) T.g_page_signs kp_page_signs b_page_signs .nil pass0 (pa_cons (pv 0) (pa_cons (pv 1) pa_nil))))
      (pss_one (ps_ret (pe_lc (own := [("row", 3)]) rfl sc_all_steps.nd (pi_range1 (by rfl) T.z_range (pa_cons (pe_callB call_len_seq (by rfl) T.z_len (by decide +kernel) (pa_cons (pv 0) pa_nil)) pa_nil)) (blkOk_by (N := ["program", "base", "signs", "row"]) (sc := defScope (topS 41)) (by decide +kernel)) (fun _ _ _ _ _ => (pg_name (i := 3) sc_all_steps.nd rfl (by first | exact Or.inl rfl | exact Or.inr rfl))) (fun _ _ _ _ _ => pts_nil) (fun _ _ _ _ _ => (pe_call G_steps_of hr (by rfl) T.g_steps_of kp_steps_of b_steps_of .nil pass0 (pa_cons (pv 0) (pa_cons (pv 2) (pa_cons (pv 3) pa_nil))))))))), ?_⟩
    refine ⟨_, rfl, _, rfl, p, rs, b, g, rfl, hp, hl, hb, ok, hg, fun H1 sg s1 hsg => ?_⟩
    have hp1 := hp.same s1
    obtain ⟨xs, w1, w2, w3⟩ := hp1.walk
    refine ⟨_, rfl, p, _, rfl, .inr (sqT w1), _, rfl, by omega, by omega, fun D nD => ?_⟩
    refine lc_st walk_rng (fun i acc H' => Same H1 H' ∧ ∃ ds : List Addr, acc = ds.map V.ref ∧ ds.length = i ∧ ∀ j, j < i → ∃ d es, ds[j]? = some d ∧ es.Perm (nxOf b rs j) ∧ DictAt H' d es) ⟨same_new nD, [], rfl, rfl, fun j hj => by omega⟩
      (fun i acc _ _ H' hD ⟨s, ds, e1, e2, f⟩ => ⟨same_mut s nD, ds, e1, e2, fun j hj => let ⟨d, es, a, b, c⟩ := f j hj; ⟨d, es, a, b, c.nl (NL.upd hD)⟩⟩) (fun _ _ _ _ _ => trivial) (fun i acc H' hi ⟨s, ds, e1, e2, f⟩ => ?_) (fun i x acc H2 H3 hi eD ⟨s, ds, e1, e2, f⟩ ⟨eH, ex⟩ Qy Qn ky kn => ?_) (fun acc H' eD ⟨s, ds, e1, e2, f⟩ => ?_)
    · rw [e1, List.length_map, e2]
      exact szl (by omega)
    · subst eH ex
      have hi2 : i < rs.length := by omega
      have er : rs[i]? = some rs[i] := List.getElem?_eq_getElem hi2
      refine ⟨rfl, _, rfl, _, rfl, _, rfl, p, sg, rs, b, i, g, _, rfl, hp1.same s, hsg.same s, er, ok _ _ er, hg, hl, fun H4 d es s4 pe de => ky _ _ (s4 _ _ eD) ⟨s.trans s4, ds ++ [d], by rw [e1, List.map_append]; rfl, by rw [List.length_append, e2]; rfl, fun j hj => ?_⟩⟩
      by_cases hji : j < i
      · obtain ⟨d9, es9, a, b9, c⟩ := f j hji
        exact ⟨d9, es9, by rw [List.getElem?_append_left (by omega)]; exact a, b9, c.nl (NL.of s4)⟩
      · have ej : j = i := by omega
        subst ej
        exact ⟨d, es, by rw [← e2]; simp, pe, de⟩
    · refine q H' D (s1.trans s) ⟨ds, by rw [eD, e1], by omega, fun i hi => f i (by omega)⟩
/-! ### isinstance -/
theorem ty_tup {H : Hp} {a : Addr} {xs : List V} (h : SqT K H a xs) : TyX K H (.ref a) (.type "tuple") := by
  rcases h with (h | ⟨o, h⟩) | ⟨o, its, n, h1, h2, _⟩
  · exact .base (.tup h)
  · exact .fTuple h
  · exact .kTuple h1 h2
theorem isi {σ : List (Option V)} {H : Hp} {Q : VK} {x : V} {t c : String} {b : Bool} (ty : TyX K H x (.type t)) (h : kitB t c = some b) (q : Q (.bl b) H) : tCons (tC (V.ty c)) tNil σ H (fun xs H2 => rIsi K (x :: xs) H2 Q) := ⟨x, _, _, _, b, rfl, .ty c, ty, kit_ty h, q⟩
/-! ### slices -/
theorem cut_all {xs : List V} {lo hi : Option Int} (h : HT.sIx xs.length 0 lo = 0 ∧ HT.sIx xs.length xs.length hi = xs.length) : cutV xs lo hi = xs := by
  unfold cutV
  rw [h.1, h.2]
  simp
theorem cut_len (xs : List V) (lo hi : Option Int) : (cutV xs lo hi).length ≤ xs.length := cutV_length xs lo hi
theorem slA {H : Hp} {Q : VK} {a : Addr} {xs : List V} {lo hi : Option Int} (h : SqT K H a xs) (k : ∀ p H', Same H H' → SqT K H' p (cutV xs lo hi) → Q (.ref p) H') : rSlA K (.ref a) lo hi H Q :=
  ⟨a, xs, rfl, h, fun z => k a H (Same.refl _) (by rw [cut_all z]; exact h), fun _ p np => k p _ (same_new np) (sqT upd_same)⟩
theorem slB {σ : List (Option V)} {H : Hp} {Q : VK} {a : Addr} {xs : List V} {lo : Option Int} (h : SqT K H a xs) (k : ∀ p H', Same H H' → SqT K H' p (cutV xs lo none) → Q (.ref p) H') : tNoPart σ H (fun u H3 => rSlA K (.ref a) lo u H3 Q) := slA h k
theorem cut_tail (xs : List V) : cutV xs (some 1) none = xs.drop 1 := by
  unfold cutV
  rw [show HT.sIx xs.length 0 (some 1) = min 1 xs.length from HT.sIx_nat xs.length 0 1, HT.sIx_none]
  cases xs with
  | nil => rfl
  | cons x r =>
    rw [show min 1 (x :: r).length = 1 by rw [List.length_cons]; omega]
    show List.take ((x :: r).length - 1) r = r
    rw [List.length_cons, Nat.add_sub_cancel]
    exact List.take_length
theorem sIx_neg1 (n d : Nat) : HT.sIx n d (some (-1)) = n - 1 := by
  show (if (-1 : Int) < 0 then ((-1 : Int) + (n : Int)).toNat else min (-1 : Int).toNat n) = n - 1
  rw [if_pos (by decide)]
  omega
theorem cut_init (xs : List V) : cutV xs none (some (-1)) = xs.take (xs.length - 1) := by
  unfold cutV
  rw [HT.sIx_none, sIx_neg1]
  rfl
theorem cut_mid (xs : List V) : cutV xs (some 1) (some (-1)) = (xs.drop 1).take (xs.length - 2) := by
  unfold cutV
  rw [show HT.sIx xs.length 0 (some 1) = min 1 xs.length from HT.sIx_nat xs.length 0 1, sIx_neg1]
  cases xs with
  | nil => rfl
  | cons x r =>
    rw [show min 1 (x :: r).length = 1 by rw [List.length_cons]; omega]
    show List.take ((x :: r).length - 1 - 1) r = List.take ((x :: r).length - 2) r
    rfl
theorem cut_to (xs : List V) (k : Nat) : cutV xs none (some (k : Int)) = xs.take k := by
  unfold cutV
  rw [HT.sIx_none, HT.sIx_nat]
  show List.take (min k xs.length - 0) xs = _
  rw [Nat.sub_zero]
  by_cases h : k ≤ xs.length
  · rw [Nat.min_eq_left h]
  · rw [Nat.min_eq_right (by omega), List.take_of_length_le (Nat.le_refl _), List.take_of_length_le (by omega)]
theorem cut_from (xs : List V) (k : Nat) : cutV xs (some (k : Int)) none = xs.drop k := by
  unfold cutV
  rw [HT.sIx_none, HT.sIx_nat]
  by_cases h : k ≤ xs.length
  · rw [Nat.min_eq_left h, List.take_of_length_le (by rw [List.length_drop]; exact Nat.le_refl _)]
  · rw [Nat.min_eq_right (by omega), Nat.sub_self, List.take_zero, List.drop_eq_nil_of_le (by omega)]
/-! ### graphs, ways -/
structure GrOk (G : Nat → List Edge) (n : Nat) : Prop where
  nd : ∀ i, i < n → ((G i).map (·.1)).Nodup
  ed : ∀ i, i < n → ∀ e ∈ G i, e.1 < n ∧ 2 ≤ e.2.1 ∧ e.2.1 ≤ e.2.2 ∧ e.2.2 ≤ 5
def InE (G : Nat → List Edge) (x y : Nat) : Prop := ∃ e ∈ G x, e.1 = y
/-- the beats from x to y, the least and the most -/
def ew (G : Nat → List Edge) (x y : Nat) : Int × Int := match (G x).find? (fun e => e.1 == y) with
  | some e => e.2
  | none => (0, 0)
theorem nodup_key {es : List Edge} (h : (es.map (·.1)).Nodup) {a b : Edge} (ha : a ∈ es) (hb : b ∈ es) (e : a.1 = b.1) : a = b := by
  induction es with
  | nil => cases ha
  | cons x r ih =>
    rw [List.map_cons] at h
    obtain ⟨h1, h2⟩ := List.nodup_cons.mp h
    rcases List.mem_cons.mp ha with z1 | z1
    · rcases List.mem_cons.mp hb with z2 | z2
      · rw [z1, z2]
      · exact absurd (List.mem_map.mpr ⟨b, z2, by rw [← e, z1]⟩) h1
    · rcases List.mem_cons.mp hb with z2 | z2
      · exact absurd (List.mem_map.mpr ⟨a, z1, by rw [e, z2]⟩) h1
      · exact ih h2 z1 z2
theorem ew_eq {G : Nat → List Edge} {n x : Nat} (g : GrOk G n) (hx : x < n) {e : Edge} (he : e ∈ G x) : ew G x e.1 = e.2 := by
  unfold ew
  cases q : (G x).find? (fun z => z.1 == e.1) with
  | none => exact absurd (List.find?_eq_none.mp q e he) (by simp)
  | some z =>
    have h1 := List.mem_of_find?_eq_some q
    have h2 : z.1 = e.1 := by simpa using List.find?_some q
    show z.2 = e.2
    rw [nodup_key (g.nd x hx) h1 he h2]
def pk (k : Nat) (p : Int × Int) : Int := if k = 0 then p.1 else p.2
/-- each step of a list -/
def Chn (R : Nat → Nat → Prop) (w : List Nat) : Prop := ∀ (i x y : Nat), w[i]? = some x → w[i + 1]? = some y → R x y
/-- the beats of each step -/
def wsOf (G : Nat → List Edge) (k : Nat) (w : List Nat) : List Int := List.zipWith (fun x y => pk k (ew G x y)) w (w.drop 1)
def wsum (G : Nat → List Edge) (k : Nat) (w : List Nat) : Int := (wsOf G k w).sum
def nV (w : List Nat) : List V := w.map fun (x : Nat) => V.int (x : Int)
theorem nV_get {w : List Nat} {i : Nat} {v : V} (h : (nV w)[i]? = some v) : ∃ x, w[i]? = some x ∧ v = .int (x : Int) := by
  unfold nV at h
  rw [List.getElem?_map] at h
  cases q : w[i]? with
  | none => rw [q] at h; cases h
  | some x => rw [q] at h; exact ⟨x, rfl, (Option.some.inj h).symm⟩
theorem nV_at {w : List Nat} {i x : Nat} (h : w[i]? = some x) : (nV w)[i]? = some (.int (x : Int)) := by
  unfold nV
  rw [List.getElem?_map, h]
  rfl
theorem nV_len (w : List Nat) : (nV w).length = w.length := List.length_map ..
theorem nV_take (w : List Nat) (k : Nat) : (nV w).take k = nV (w.take k) := (List.map_take ..).symm
theorem nV_drop (w : List Nat) (k : Nat) : (nV w).drop k = nV (w.drop k) := (List.map_drop ..).symm
theorem nV_app (a b : List Nat) : nV (a ++ b) = nV a ++ nV b := List.map_append ..
theorem nV_int (w : List Nat) : nV w = (w.map fun (x : Nat) => (x : Int)).map V.int := by
  unfold nV
  rw [List.map_map]
  rfl
theorem at_last {w : List Nat} {x : Nat} (h : w.getLast? = some x) : atI (nV w) (-1) = some (.int (x : Int)) := by
  obtain ⟨l, rfl⟩ : ∃ l, w = l ++ [x] := by
    have := List.getLast?_eq_some_iff.mp h
    exact this
  rw [nV_app]
  exact atI_last _ _
/-- one row's dict, one step's pair -/
theorem StepsAt.row {H : Hp} {s : Addr} {n : Nat} {G : Nat → List Edge} (x : StepsAt H s n G) {i : Nat} (hi : i < n) : ∃ xs d es, H s = some (.lst xs) ∧ atI xs (i : Int) = some (.ref d) ∧ es.Perm (G i) ∧ DictAt H d es := by
  obtain ⟨ds, h1, h2, h3⟩ := x
  obtain ⟨d, es, a, b, c⟩ := h3 i hi
  exact ⟨_, d, es, h1, atI_nat (by rw [List.getElem?_map, a]; rfl), b, c⟩
theorem DictAt.get {H : Hp} {d : Addr} {es : List Edge} (x : DictAt H d es) (nd : (es.map (·.1)).Nodup) {e : Edge} (he : e ∈ es) : ∃ t, DGet H d (.int (e.1 : Int)) (some (.ref t)) ∧ H t = some (.tup [.int e.2.1, .int e.2.2]) := by
  obtain ⟨kvs, h1, h2, h3⟩ := x
  obtain ⟨i, hi, rfl⟩ := List.mem_iff_getElem.mp he
  obtain ⟨t, a, b⟩ := h3 i _ (List.getElem?_eq_getElem hi)
  refine ⟨t, ?_, b⟩
  have key : valV kvs (Sum.inl (es[i].1 : Int)) = some (.ref t) := by
    cases q : valV kvs (Sum.inl (es[i].1 : Int)) with
    | none => exact absurd (List.mem_map.mpr ⟨_, List.mem_of_getElem? a, rfl⟩) (valV_not q)
    | some v =>
      unfold valV at q
      cases q2 : kvs.find? (fun kv => decide (kv.1 = Sum.inl (es[i].1 : Int))) with
      | none => rw [q2] at q; cases q
      | some kv =>
        rw [q2] at q
        have e1 : kv.1 = Sum.inl (es[i].1 : Int) := by simpa using List.find?_some q2
        obtain ⟨j, hj, ej⟩ := List.mem_iff_getElem.mp (List.mem_of_find?_eq_some q2)
        have hj2 : j < es.length := by omega
        obtain ⟨t2, a2, b2⟩ := h3 j _ (List.getElem?_eq_getElem hj2)
        rw [List.getElem?_eq_getElem hj, ej] at a2
        have a3 := Option.some.inj a2
        rw [a3] at e1
        have e2 : es[j].1 = es[i].1 := by
          have := Sum.inl.inj e1
          omega
        have e3 : j = i := by
          have n1 : (es.map (·.1))[j]? = some es[i].1 := by rw [List.getElem?_map, List.getElem?_eq_getElem hj2, ← e2]; rfl
          have n2 : (es.map (·.1))[i]? = some es[i].1 := by rw [List.getElem?_map, List.getElem?_eq_getElem hi]; rfl
          exact nd_ix nd n1 n2
        subst e3
        rw [List.getElem?_eq_getElem hj, ej, a3] at a
        have a4 := congrArg Prod.snd (Option.some.inj a)
        rw [a3] at q
        exact q.symm.trans (congrArg some a4)
  rw [← key]
  exact DGet.k (k := Sum.inl (es[i].1 : Int)) h1
theorem StepsAt.edge {H : Hp} {s : Addr} {n : Nat} {G : Nat → List Edge} (x : StepsAt H s n G) (g : GrOk G n) {i : Nat} (hi : i < n) {j : Nat} (h : InE G i j) : ∃ xs d t, H s = some (.lst xs) ∧ atI xs (i : Int) = some (.ref d) ∧ DGet H d (.int (j : Int)) (some (.ref t)) ∧ H t = some (.tup [.int (ew G i j).1, .int (ew G i j).2]) := by
  obtain ⟨e, he, rfl⟩ := h
  obtain ⟨xs, d, es, h1, h2, h3, h4⟩ := x.row hi
  obtain ⟨t, a, b⟩ := h4.get ((h3.map (·.1)).nodup_iff.mpr (g.nd i hi)) (h3.mem_iff.mpr he)
  rw [ew_eq g hi he]
  exact ⟨xs, d, t, h1, h2, a, b⟩
theorem wsOf_get {G : Nat → List Edge} {k : Nat} {w : List Nat} {i x y : Nat} (hx : w[i]? = some x) (hy : w[i + 1]? = some y) : (wsOf G k w)[i]? = some (pk k (ew G x y)) := by
  unfold wsOf
  rw [List.getElem?_zipWith, hx, List.getElem?_drop, Nat.add_comm 1 i, hy]
theorem wsOf_len (G : Nat → List Edge) (k : Nat) (w : List Nat) : (wsOf G k w).length = w.length - 1 := by
  unfold wsOf
  rw [List.length_zipWith, List.length_drop]
  omega
/-- two neighbours, out of the list's cut ends -/
theorem pairs_get {w : List Nat} {i : Nat} {x y : V} (h1 : (nV (w.take (w.length - 1)))[i]? = some x) (h2 : (nV (w.drop 1))[i]? = some y) : ∃ a b, w[i]? = some a ∧ w[i + 1]? = some b ∧ x = .int (a : Int) ∧ y = .int (b : Int) := by
  obtain ⟨a, e1, rfl⟩ := nV_get h1
  obtain ⟨b, e2, rfl⟩ := nV_get h2
  rw [List.getElem?_drop, Nat.add_comm 1 i] at e2
  have e3 : w[i]? = some a := by
    rw [List.getElem?_take] at e1
    split at e1
    · exact e1
    · cases e1
  exact ⟨a, b, e3, e2, rfl, rfl⟩
theorem pairs_len (w : List Nat) : w.length - 1 = min (nV (w.take (w.length - 1))).length (nV (w.drop 1)).length := by
  rw [nV_len, nV_len, List.length_take, List.length_drop]
  omega

end
end B65

end

section
set_option Elab.async false
set_option linter.all false
set_option maxRecDepth 100000
set_option maxHeartbeats 1000000
namespace B65
open PySem PySem.Spec PyProof.Rows L2
section
variable {P : Program} {w : World} {K : PySem.W.Frag} {mg : Str → Option Value} {base : Heap}
def sp_is_between : Sp := fun vs H Q _ => ∃ a lo hi : Int, vs = [.int a, .int lo, .int hi] ∧ lo ≤ a ∧ a ≤ hi ∧ Q (.bl true) H
theorem sc_is_between : FnScope ["thing", "low", "high"] ["thing", "low", "high"] (defScope (topS 33)) := ⟨rfl, rfl, rfl, by decide +kernel, rfl, by decide +kernel, by decide +kernel⟩
theorem ok_is_between (T : Txt K mg) : Ok P w K mg base 1 "is_between" ["thing", "low", "high"] (sp_is_between) := by
  obtain ⟨fd, F⟩ := T.d_is_between
  refine ⟨fd, F.ok sc_is_between (fun vs H Q E h => ?_) (fun cdv A outer s H vs Q E hr h => ?_), F.kp, F.bindsN fun _ _ _ _ _ _ us hl => match us, hl with | [_, _, _], _ => rfl⟩
  · obtain ⟨a, lo, hi, rfl, _⟩ := h
    rfl
  · obtain ⟨a, lo, hi, rfl, h1, h2, q⟩ := h
    have hu := hu_of hr
    refine ⟨_, PSs.nox (pss_one (ps_ret (pe_and (pe_callB call_isi (by rfl) T.z_isinstance (by decide +kernel) (pa_cons (pv 0) (pa_cons (pe_bltn (v := .ty "int") (by rfl) T.z_int (by decide +kernel) rfl) pa_nil))) (pe_and (pe_not (pe_callB call_isi (by rfl) T.z_isinstance (by decide +kernel) (pa_cons (pv 0) (pa_cons (pe_bltn (v := .ty "bool") (by rfl) T.z_bool (by decide +kernel) rfl) pa_nil)))) (pe_one (pe_chain op_le op_le (pv 1) (pv 0) (pv 2))))))), ?_⟩
    refine ⟨_, rfl, isi (.base (.int a)) (b := true) (by decide +kernel) ⟨true, rfl, ?_⟩⟩
    refine ⟨_, rfl, isi (.base (.int a)) (b := false) (by decide +kernel) ⟨false, rfl, true, rfl, ?_⟩⟩
    refine ⟨_, rfl, _, rfl, _, _, rfl, rfl, _, rfl, ?_⟩
    rw [decide_eq_true h1]
    refine ⟨_, rfl, _, _, rfl, rfl, ?_⟩
    show Q (.bl (decide (a ≤ hi))) H
    rw [decide_eq_true h2]
    exact q
/-- a price -/
inductive Price where
  | no | closed | int (i : Int)
def PrV (H : Hp) (v : V) : Price → Prop
  | .no => v = .non
  | .closed => ∃ t, v = .ref t ∧ H t = some (.tup [])
  | .int i => v = .int i
theorem PrV.same {H H' : Hp} {v : V} {p : Price} (s : Same H H') (h : PrV H v p) : PrV H' v p := by
  cases p with
  | no => exact h
  | closed => obtain ⟨t, a, b⟩ := h; exact ⟨t, a, s _ _ b⟩
  | int i => exact h
def PricesAt (K : PySem.W.Frag) (H : Hp) (t : Addr) (ps : List Price) : Prop := ∃ vs, SqT K H t vs ∧ vs.length = ps.length ∧ ∀ (i : Nat) (v : V) (p : Price), vs[i]? = some v → ps[i]? = some p → PrV H v p
theorem PricesAt.same {H H' : Hp} {t : Addr} {ps : List Price} (s : Same H H') (h : PricesAt K H t ps) : PricesAt K H' t ps := by
  obtain ⟨vs, a, b, c⟩ := h
  exact ⟨vs, same_t s a, b, fun i v p e1 e2 => (c i v p e1 e2).same s⟩
theorem PricesAt.at_ {H : Hp} {t : Addr} {ps : List Price} (h : PricesAt K H t ps) {i : Nat} {p : Price} (e : ps[i]? = some p) : ∃ vs v, SqT K H t vs ∧ atI vs (i : Int) = some v ∧ PrV H v p := by
  obtain ⟨vs, a, b, c⟩ := h
  have hi := (List.getElem?_eq_some_iff.mp e).1
  have ev : vs[i]? = some (vs[i]'(by omega)) := List.getElem?_eq_getElem _
  exact ⟨vs, _, a, atI_nat ev, c i _ p ev e⟩
def Price.isInt : Price → Bool
  | .int _ => true
  | _ => false
def Price.isClosed : Price → Bool
  | .closed => true
  | _ => false
def sp_is_int : Sp := fun vs H Q _ => ∃ (v : V) (p : Price), vs = [v] ∧ PrV H v p ∧ Q (.bl p.isInt) H
theorem sc_is_int : FnScope ["thing"] ["thing"] (defScope (topS 45)) := ⟨rfl, rfl, rfl, by decide +kernel, rfl, by decide +kernel, by decide +kernel⟩
theorem ok_is_int (T : Txt K mg) : Ok P w K mg base 1 "is_int" ["thing"] (sp_is_int) := by
  obtain ⟨fd, F⟩ := T.d_is_int
  refine ⟨fd, F.ok sc_is_int (fun vs H Q E h => ?_) (fun cdv A outer s H vs Q E hr h => ?_), F.kp, F.bindsN fun _ _ _ _ _ _ us hl => match us, hl with | [_], _ => rfl⟩
  · obtain ⟨v, p, rfl, _⟩ := h
    rfl
  · obtain ⟨v, p, rfl, hv, q⟩ := h
    have hu := hu_of hr
    refine ⟨_, PSs.nox (pss_one (ps_ret (pe_and (pe_callB call_isi (by rfl) T.z_isinstance (by decide +kernel) (pa_cons (pv 0) (pa_cons (pe_bltn (v := .ty "int") (by rfl) T.z_int (by decide +kernel) rfl) pa_nil))) (pe_one (pe_not (pe_callB call_isi (by rfl) T.z_isinstance (by decide +kernel) (pa_cons (pv 0) (pa_cons (pe_bltn (v := .ty "bool") (by rfl) T.z_bool (by decide +kernel) rfl) pa_nil)))))))), ?_⟩
    cases p with
    | no =>
      subst hv
      exact ⟨_, rfl, isi (.base .non) (b := false) (by decide +kernel) ⟨false, rfl, q⟩⟩
    | closed =>
      obtain ⟨t, rfl, ht⟩ := hv
      exact ⟨_, rfl, isi (.base (.tup ht)) (b := false) (by decide +kernel) ⟨false, rfl, q⟩⟩
    | int i =>
      subst hv
      exact ⟨_, rfl, isi (.base (.int i)) (b := true) (by decide +kernel) ⟨true, rfl, _, rfl, isi (.base (.int i)) (b := false) (by decide +kernel) ⟨false, rfl, q⟩⟩⟩
def sp_is_closed (K : PySem.W.Frag) : Sp := fun vs H Q _ => ∃ (v : V) (p : Price), vs = [v] ∧ PrV H v p ∧ Q (.bl p.isClosed) H
theorem sc_is_closed : FnScope ["price"] ["price"] (defScope (topS 47)) := ⟨rfl, rfl, rfl, by decide +kernel, rfl, by decide +kernel, by decide +kernel⟩
theorem ok_is_closed (T : Txt K mg) : Ok P w K mg base 1 "is_closed" ["price"] (sp_is_closed K) := by
  obtain ⟨fd, F⟩ := T.d_is_closed
  refine ⟨fd, F.ok sc_is_closed (fun vs H Q E h => ?_) (fun cdv A outer s H vs Q E hr h => ?_), F.kp, F.bindsN fun _ _ _ _ _ _ us hl => match us, hl with | [_], _ => rfl⟩
  · obtain ⟨v, p, rfl, _⟩ := h
    rfl
  · obtain ⟨v, p, rfl, hv, q⟩ := h
    have hu := hu_of hr
    refine ⟨_, PSs.nox (pss_one (ps_ret (pe_and (pe_callB call_isi (by rfl) T.z_isinstance (by decide +kernel) (pa_cons (pv 0) (pa_cons (pe_bltn (v := .ty "tuple") (by rfl) T.z_tuple (by decide +kernel) rfl) pa_nil))) (pe_one (pe_cmpR op_eq (pe_callB call_len_seq (by rfl) T.z_len (by decide +kernel) (pa_cons (pv 0) pa_nil)) pe_int (nomark _)))))), ?_⟩
    cases p with
    | no =>
      subst hv
      exact ⟨_, rfl, isi (.base .non) (b := false) (by decide +kernel) ⟨false, rfl, q⟩⟩
    | closed =>
      obtain ⟨t, rfl, ht⟩ := hv
      exact ⟨_, rfl, isi (.base (.tup ht)) (b := true) (by decide +kernel) ⟨true, rfl, _, rfl, t, _, rfl, .inr (sqT ht), rfl, q⟩⟩
    | int i =>
      subst hv
      exact ⟨_, rfl, isi (.base (.int i)) (b := false) (by decide +kernel) ⟨false, rfl, q⟩⟩
def sp_are_steps (K : PySem.W.Frag) : Sp := fun vs H Q _ => ∃ (p s t : Addr) (rs : List Row) (G : Nat → List Edge) (w : List Nat), vs = [.ref p, .ref s, .ref t] ∧ ProgAt H p rs ∧ StepsAt H s rs.length G ∧ GrOk G rs.length ∧ SqT K H t (nV w) ∧ 2 ≤ w.length ∧ w.length ≤ 200 ∧ (∀ x ∈ w, x < rs.length) ∧ Chn (InE G) w ∧ ∀ H', Same H H' → Q (.bl true) H'
theorem sc_are_steps : FnScope ["program", "steps", "thing", "row", "following"] ["program", "steps", "thing"] (defScope (topS 42)) := ⟨rfl, rfl, rfl, by decide +kernel, rfl, by decide +kernel, by decide +kernel⟩
theorem ok_are_steps (T : Txt K mg) : Ok P w K mg base 2 "are_steps" ["program", "steps", "thing"] (sp_are_steps K) := by
  obtain ⟨fd, F⟩ := T.d_are_steps
  obtain ⟨fd_is_between, G_is_between, kp_is_between, b_is_between⟩ := ok_is_between (P := P) (w := w) (base := base) T
  obtain ⟨tMOST_WAY, hMOST_WAY⟩ := T.n_MOST_WAY
  refine ⟨fd, F.ok sc_are_steps (fun vs H Q E h => ?_) (fun cdv A outer s H vs Q E hr h => ?_), F.kp, F.bindsN fun _ _ _ _ _ _ us hl => match us, hl with | [_, _, _], _ => rfl⟩
  · obtain ⟨p, s, t, rs, G, w, rfl, _⟩ := h
    rfl
  · obtain ⟨p, s, t, rs, G, w, rfl, hp, hs, hg, ht, h2, h200, hlt, hch, q⟩ := h
    have hu := hu_of hr
    refine ⟨_, PSs.nox (pss_cons (ps_if (PW.pt (pw_or (pt_not (pt_val (pe_callB call_isi (by rfl) T.z_isinstance (by decide +kernel) (pa_cons (pv 2) (pa_cons (pe_bltn (v := .ty "tuple") (by rfl) T.z_tuple (by decide +kernel) rfl) pa_nil))))) (pw_or1 (pt_not (pt_chain op_le op_le pe_int (pe_callB call_len_seq (by rfl) T.z_len (by decide +kernel) (pa_cons (pv 2) pa_nil)) (pe_glob (v := .int 200) (by rfl) hMOST_WAY ⟨_, rfl⟩))))))
      (pss_one (ps_ret pe_bl))
      pss_nil)
      (pss_cons (ps_for PassesOwn.never rfl (pi_tup (pv 2)) (pg_name (i := 3) sc_are_steps.nd rfl (by first | exact Or.inl rfl | exact Or.inr rfl))
      (pss_one (ps_if (pt_not (pt_val (pe_call G_is_between hr (by rfl) T.g_is_between kp_is_between b_is_between .nil pass0 (pa_cons (pv 3) (pa_cons pe_int (pa_cons (pe_op op_sub (pe_callB call_len_seq (by rfl) T.z_len (by decide +kernel) (pa_cons (pv 0) pa_nil)) pe_int) pa_nil))))))
      (pss_one (ps_ret pe_bl))
      pss_nil)))
      (pss_cons (ps_for PassesOwn.never rfl (RZ.pi_zipA (by rfl) T.z_zip (pa_cons (pe_slice sl_tupA (pv 2) po_none (po_some (pe_un un_neg pe_int))) (pa_cons (pe_slice sl_tupA (pv 2) (po_some pe_int) po_none) pa_nil))) (pg_tup rfl (pgs_cons (pg_name (i := 3) sc_are_steps.nd rfl (by first | exact Or.inl rfl | exact Or.inr rfl)) (pgs_cons (pg_name (i := 4) sc_are_steps.nd rfl (by first | exact Or.inl rfl | exact Or.inr rfl)) pgs_nil)))
      (pss_one (ps_if (pt_cmp (pc_dnotin hu (pv 4) (pe_ix ix_list (pv 1) (pv 3) (fun _ _ => rfl))))
      (pss_one (ps_ret pe_bl))
      pss_nil)))
      (pss_one (ps_ret pe_bl))))), ?_⟩
    obtain ⟨xs, w1, w2, w3⟩ := hp.walk
    refine ⟨_, rfl, ?_⟩
    refine isi (ty_tup ht) (b := true) (c := "tuple") (by decide +kernel) ?_
    refine ⟨true, rfl, ?_⟩
    refine ⟨_, rfl, t, _, rfl, .inr ht, _, _, rfl, rfl, true, congrArg V.bl (decide_eq_true (by rw [nV_len]; omega)), ?_⟩
    refine ⟨_, _, rfl, rfl, true, congrArg V.bl (decide_eq_true (by rw [nV_len]; omega)), ?_⟩
    refine ⟨_, rfl, t, rfl, ⟨_, ht⟩, for_it (walk_tup (K := K) (a := t) (xs := nV w)) (fun i σ H' => ∃ x1 x2, σ = [some (.ref p), some (.ref s), some (.ref t), x1, x2] ∧ H' = H) ⟨none, none, rfl, rfl⟩ (fun i σ H' _ ⟨_, _, _, e⟩ => by rw [e]; exact ht) ?_ ?_⟩
    · rintro i x σ H1 H' hi ⟨x1, x2, rfl, rfl⟩ ⟨rfl, ex⟩
      obtain ⟨n, en, rfl⟩ := nV_get ex
      have hn := hlt n (List.mem_of_getElem? en)
      refine ⟨_, rfl, _, rfl, p, _, rfl, .inr (sqT w1), _, _, rfl, rfl, _, 0, _, rfl, by omega, by omega, true, rfl, ?_⟩
      exact ⟨_, x2, rfl, rfl⟩
    · rintro σ H' ⟨x1, x2, rfl, rfl⟩
      refine ⟨_, rfl, 1, rfl, _, rfl, slA ht fun t1 H1 s1 ht1 => ?_⟩
      refine ⟨_, rfl, _, rfl, ?_⟩
      refine slB (same_t s1 ht) fun t2 H2 s2 ht2 => ?_
      rw [show cutV (nV w) none (some (-1)) = nV (w.take (w.length - 1)) by rw [cut_init, nV_len, nV_take]] at ht1
      rw [show cutV (nV w) (some 1) none = nV (w.drop 1) by rw [cut_tail, nV_drop]] at ht2
      have hs2 := hs.same (s1.trans s2)
      refine ⟨t1, t2, _, _, rfl, .inr ⟨same_t s2 ht1, ht2, for_it (walk_zipT (pairs_len w)) (fun i σ H' => ∃ x1 x2, σ = [some (.ref p), some (.ref s), some (.ref t), x1, x2] ∧ Same H2 H') ⟨x1, x2, rfl, Same.refl _⟩ (fun i σ H' _ ⟨_, _, _, e⟩ => ⟨same_t e (same_t s2 ht1), same_t e ht2⟩) ?_ ?_⟩⟩
      · rintro i x σ H3 H' hi ⟨x1, x2, rfl, s3⟩ ⟨T9, y1, y2, rfl, nT, rfl, e1, e2⟩
        obtain ⟨a, b, ea, eb, rfl, rfl⟩ := pairs_get e1 e2
        have s4 := same_new (o := .tup [.int (a : Int), .int (b : Int)]) nT
        refine ⟨T9, _, rfl, sqT upd_same, rfl, _, _, rfl, _, _, rfl, rfl, ?_⟩
        obtain ⟨ys, d, t9, g1, g2, g3, g4⟩ := (hs2.same (s3.trans s4)).edge hg (hlt a (List.mem_of_getElem? ea)) (hch i a b ea eb)
        exact ⟨_, rfl, _, rfl, _, rfl, s, _, _, _, rfl, rfl, sqL g1, g2, d, _, rfl, g3, false, rfl, _, _, rfl, s3.trans s4⟩
      · rintro σ H' ⟨x1, x2, rfl, s3⟩
        exact q _ ((s1.trans s2).trans s3)
/-- a way from one to other: its rows, none between a wait or the other -/
structure WayOk (G : Nat → List Edge) (wt : Nat → Bool) (n : Nat) (one other : Nat) (w : List Nat) : Prop where
  two : 2 ≤ w.length
  most : w.length ≤ 200
  lt : ∀ x ∈ w, x < n
  ch : Chn (InE G) w
  first : w[0]? = some one
  last : w.getLast? = some other
  mid : ∀ x ∈ (w.drop 1).take (w.length - 2), wt x = false ∧ x ≠ other
def Waits (rs : List Row) (wt : Nat → Bool) : Prop := ∀ (i : Nat) (r : Row), rs[i]? = some r → wt i = decide (r.deed = ("wait" : Str))
theorem row_at {rs : List Row} {i : Nat} (h : i < rs.length) : ∃ r, rs[i]? = some r := ⟨_, List.getElem?_eq_getElem h⟩
theorem cut_mid_nV (w : List Nat) : cutV (nV w) (some 1) (some (-1)) = nV ((w.drop 1).take (w.length - 2)) := by rw [cut_mid, nV_len, nV_drop, nV_take]
def sp_is_way (K : PySem.W.Frag) : Sp := fun vs H Q _ => ∃ (p s t : Addr) (rs : List Row) (G : Nat → List Edge) (wt : Nat → Bool) (one other : Nat) (w : List Nat), vs = [.ref p, .ref s, .int (one : Int), .int (other : Int), .ref t] ∧ ProgAt H p rs ∧ StepsAt H s rs.length G ∧ GrOk G rs.length ∧ Waits rs wt ∧ SqT K H t (nV w) ∧ WayOk G wt rs.length one other w ∧ ∀ H', Same H H' → Q (.bl true) H'
theorem sc_is_way : FnScope ["program", "steps", "one", "other", "thing", "row"] ["program", "steps", "one", "other", "thing"] (defScope (topS 43)) := ⟨rfl, rfl, rfl, by decide +kernel, rfl, by decide +kernel, by decide +kernel⟩
theorem ok_is_way (T : Txt K mg) : Ok P w K mg base 3 "is_way" ["program", "steps", "one", "other", "thing"] (sp_is_way K) := by
  obtain ⟨fd, F⟩ := T.d_is_way
  obtain ⟨fd_are_steps, G_are_steps, kp_are_steps, b_are_steps⟩ := ok_are_steps (P := P) (w := w) (base := base) T
  obtain ⟨fd_is_wait, G_is_wait, kp_is_wait, b_is_wait⟩ := ok_is_wait (P := P) (w := w) (base := base) T
  refine ⟨fd, F.ok sc_is_way (fun vs H Q E h => ?_) (fun cdv A outer s H vs Q E hr h => ?_), F.kp, F.bindsN fun _ _ _ _ _ _ us hl => match us, hl with | [_, _, _, _, _], _ => rfl⟩
  · obtain ⟨p, s, t, rs, G, wt, one, other, w, rfl, _⟩ := h
    rfl
  · obtain ⟨p, s, t, rs, G, wt, one, other, w, rfl, hp, hs, hg, hw, ht, ok, q⟩ := h
    have hu := hu_of hr
    refine ⟨_, PSs.nox (pss_cons (ps_if (PW.pt (pw_or (pt_not (pt_val (pe_call G_are_steps hr (by rfl) T.g_are_steps kp_are_steps b_are_steps .nil pass0 (pa_cons (pv 0) (pa_cons (pv 1) (pa_cons (pv 4) pa_nil)))))) (pw_or (pt_cmpR op_ne (pe_ix ix_tup (pv 4) pe_int (fun _ _ => rfl)) (pv 2) (nomark _)) (pw_or1 (pt_cmpR op_ne (pe_ix ix_tup (pv 4) (pe_un un_neg pe_int) (fun _ _ => rfl)) (pv 3) (nomark _))))))
      (pss_one (ps_ret pe_bl))
      pss_nil)
      (pss_cons (ps_for PassesOwn.never rfl (pi_tup (pe_slice sl_tupA (pv 4) (po_some pe_int) (po_some (pe_un un_neg pe_int)))) (pg_name (i := 5) sc_is_way.nd rfl (by first | exact Or.inl rfl | exact Or.inr rfl))
      (pss_one (ps_if (PW.pt (pw_or (pt_val (pe_call G_is_wait (hr.mono (by decide)) (by rfl) T.g_is_wait kp_is_wait b_is_wait .nil pass0 (pa_cons (pv 0) (pa_cons (pv 5) pa_nil)))) (pw_or1 (pt_cmpR op_eq (pv 5) (pv 3) (nomark _)))))
      (pss_one (ps_ret pe_bl))
      pss_nil)))
      (pss_one (ps_ret pe_bl)))), ?_⟩
    refine ⟨_, rfl, _, rfl, _, rfl, p, s, t, rs, G, w, rfl, hp, hs, hg, ht, ok.two, ok.most, ok.lt, ok.ch, fun H1 s1 => ⟨true, rfl, ?_⟩⟩
    have ht1 := same_t s1 ht
    refine ⟨_, rfl, t, _, _, _, rfl, rfl, ht1, atI_nat (j := 0) (nV_at ok.first), _, rfl, rfl, false, by rw [decide_eq_true rfl]; rfl, ?_⟩
    refine ⟨_, rfl, 1, rfl, t, _, _, _, rfl, rfl, ht1, at_last ok.last, _, rfl, rfl, false, by rw [decide_eq_true rfl]; rfl, ?_⟩
    refine ⟨_, rfl, _, rfl, 1, rfl, _, rfl, slA ht1 fun t2 H2 s2 ht2 => ?_⟩
    rw [cut_mid_nV] at ht2
    refine ⟨t2, rfl, ⟨_, ht2⟩, for_it (walk_tup (K := K) (a := t2)) (fun i σ H' => ∃ x1, σ = [some (.ref p), some (.ref s), some (.int (one : Int)), some (.int (other : Int)), some (.ref t), x1] ∧ H' = H2) ⟨none, rfl, rfl⟩ (fun i σ H' _ ⟨_, _, e⟩ => by rw [e]; exact ht2) ?_ ?_⟩
    · rintro i x σ H3 H' hi ⟨x1, rfl, rfl⟩ ⟨rfl, ex⟩
      obtain ⟨n, en, rfl⟩ := nV_get ex
      have hm := List.mem_of_getElem? en
      obtain ⟨m1, m2⟩ := ok.mid n hm
      have hn := ok.lt n (List.mem_of_mem_drop (List.mem_of_mem_take hm))
      obtain ⟨r, er⟩ := row_at hn
      refine ⟨_, rfl, _, rfl, p, rs, n, r, rfl, hp.same (s1.trans s2), er, false, by rw [← hw n r er, m1], ?_⟩
      refine ⟨_, rfl, _, rfl, rfl, false, congrArg V.bl (decide_eq_false (fun z => m2 (by have := V.int.inj z; omega))), ?_⟩
      exact ⟨_, rfl, rfl⟩
    · rintro σ H' ⟨x1, rfl, rfl⟩
      exact q _ (s1.trans s2)
def sp_way_beats (K : PySem.W.Frag) : Sp := fun vs H Q _ => ∃ (s t : Addr) (n k : Nat) (G : Nat → List Edge) (w : List Nat), vs = [.ref s, .ref t, .int (k : Int)] ∧ StepsAt H s n G ∧ GrOk G n ∧ SqT K H t (nV w) ∧ (∀ x ∈ w, x < n) ∧ Chn (InE G) w ∧ (k = 0 ∨ k = 1) ∧ ∀ H', Same H H' → Q (.int (wsum G k w)) H'
theorem sc_way_beats : FnScope ["steps", "way", "which", "total", "row", "following", "pair"] ["steps", "way", "which"] (defScope (topS 44)) := ⟨rfl, rfl, rfl, by decide +kernel, rfl, by decide +kernel, by decide +kernel⟩
theorem ok_way_beats (T : Txt K mg) : Ok P w K mg base 1 "way_beats" ["steps", "way", "which"] (sp_way_beats K) := by
  obtain ⟨fd, F⟩ := T.d_way_beats
  refine ⟨fd, F.ok sc_way_beats (fun vs H Q E h => ?_) (fun cdv A outer s H vs Q E hr h => ?_), F.kp, F.bindsN fun _ _ _ _ _ _ us hl => match us, hl with | [_, _, _], _ => rfl⟩
  · obtain ⟨s, t, n, k, G, w, rfl, _⟩ := h
    rfl
  · obtain ⟨s, t, n, k, G, w, rfl, hs, hg, ht, hlt, hch, hk, q⟩ := h
    have hu := hu_of hr
    refine ⟨_, PSs.nox (pss_cons (ps_set (i := 3) sc_way_beats.nd rfl (by first | exact Or.inl rfl | exact Or.inr rfl) pe_int)
      (pss_cons (ps_for PassesOwn.never rfl (RZ.pi_zipA (by rfl) T.z_zip (pa_cons (pe_slice sl_tupA (pv 1) po_none (po_some (pe_un un_neg pe_int))) (pa_cons (pe_slice sl_tupA (pv 1) (po_some pe_int) po_none) pa_nil))) (pg_tup rfl (pgs_cons (pg_name (i := 4) sc_way_beats.nd rfl (by first | exact Or.inl rfl | exact Or.inr rfl)) (pgs_cons (pg_name (i := 5) sc_way_beats.nd rfl (by first | exact Or.inl rfl | exact Or.inr rfl)) pgs_nil)))
      (pss_cons (ps_set (i := 6) sc_way_beats.nd rfl (by first | exact Or.inl rfl | exact Or.inr rfl) (pe_dget hu (pe_ix ix_list (pv 0) (pv 4) (fun _ _ => rfl)) (pv 5) (fun _ _ => rfl)))
      (pss_one (ps_set (i := 3) sc_way_beats.nd rfl (by first | exact Or.inl rfl | exact Or.inr rfl) (pe_op op_add (pv 3) (pe_ix ix_tup (pv 6) (pv 2) (fun _ _ => rfl)))))))
      (pss_one (ps_ret (pv 3))))), ?_⟩
    refine ⟨_, rfl, 1, rfl, _, rfl, slA ht fun t1 H1 s1 ht1 => ?_⟩
    refine ⟨_, rfl, _, rfl, ?_⟩
    refine slB (same_t s1 ht) fun t2 H2 s2 ht2 => ?_
    rw [show cutV (nV w) none (some (-1)) = nV (w.take (w.length - 1)) by rw [cut_init, nV_len, nV_take]] at ht1
    rw [show cutV (nV w) (some 1) none = nV (w.drop 1) by rw [cut_tail, nV_drop]] at ht2
    have hs2 := hs.same (s1.trans s2)
    refine ⟨t1, t2, _, _, rfl, .inr ⟨same_t s2 ht1, ht2, for_it (walk_zipT (pairs_len w)) (fun i σ H' => ∃ x1 x2 x3, σ = [some (.ref s), some (.ref t), some (.int (k : Int)), some (.int ((wsOf G k w).take i).sum), x1, x2, x3] ∧ Same H2 H') ⟨none, none, none, rfl, Same.refl _⟩ (fun i σ H' _ ⟨_, _, _, _, e⟩ => ⟨same_t e (same_t s2 ht1), same_t e ht2⟩) ?_ ?_⟩⟩
    · rintro i x σ H3 H' hi ⟨x1, x2, x3, rfl, s3⟩ ⟨T9, y1, y2, rfl, nT, rfl, e1, e2⟩
      obtain ⟨a, b, ea, eb, rfl, rfl⟩ := pairs_get e1 e2
      have s4 := same_new (o := .tup [.int (a : Int), .int (b : Int)]) nT
      refine ⟨T9, _, rfl, sqT upd_same, rfl, _, _, rfl, _, _, rfl, rfl, ?_⟩
      obtain ⟨ys, d, t9, g1, g2, g3, g4⟩ := (hs2.same (s3.trans s4)).edge hg (hlt a (List.mem_of_getElem? ea)) (hch i a b ea eb)
      refine ⟨_, rfl, _, rfl, s, _, _, _, rfl, rfl, sqL g1, g2, _, rfl, d, _, rfl, g3, ?_⟩
      have ek : atI [V.int (ew G a b).1, V.int (ew G a b).2] (k : Int) = some (.int (pk k (ew G a b))) := by
        rcases hk with z | z <;> subst z <;> rfl
      refine ⟨_, rfl, _, rfl, _, rfl, t9, _, _, _, rfl, rfl, sqT g4, ek, _, _, rfl, rfl, some (.int (a : Int)), some (.int (b : Int)), some (.ref t9), ?_, s3.trans s4⟩
      rw [sum_take (wsOf_get ea eb)]
      rfl
    · rintro σ H' ⟨x1, x2, x3, rfl, s3⟩
      refine ⟨_, rfl, ?_⟩
      rw [List.take_of_length_le (by rw [wsOf_len]; exact Nat.le_refl _)]
      exact q _ ((s1.trans s2).trans s3)
end
end B65

end

section
set_option Elab.async false
set_option linter.all false
set_option maxRecDepth 100000
set_option maxHeartbeats 1000000
namespace B65
open PySem PySem.Spec PyProof.Rows L2
section
variable {P : Program} {w : World} {K : PySem.W.Frag} {mg : Str → Option Value} {base : Heap}
theorem lockS {H H' : Hp} {d : Addr} {u : HO} {od : Obj} (hd : H d = some u) (s : Same (upd H d (.frz od u)) H') : Same H (upd H' d u) := fun b o e => by
  by_cases z : b = d
  · subst z
    rw [upd_same, ← e, hd]
  · rw [upd_ne z]
    exact s _ _ (by rw [upd_ne z]; exact e)
/-- all but dicts stands as before -/
def ND (H H' : Hp) : Prop := ∀ b o, H b = some o → (∀ kvs, o ≠ .dK kvs) → H' b = some o
theorem ND.lock {H : Hp} {d : Addr} {kvs : List (Key × V)} {o : HO} (h : H d = some (.dK kvs)) : ND H (upd H d o) := fun b u e n => by
  rw [upd_ne fun z => by
    rw [z, h] at e
    exact n kvs (Option.some.inj e).symm]
  exact e
theorem ND.tup {H H' : Hp} (s : ND H H') {t : Addr} {xs : List V} (h : H t = some (.tup xs)) : H' t = some (.tup xs) := s _ _ h fun _ z => by cases z
theorem ND.sqt {H H' : Hp} (s : ND H H') {t : Addr} {xs : List V} (h : SqT K H t xs) : SqT K H' t xs := by
  rcases h with (h | ⟨o, h⟩) | h
  · exact .inl (.inl (s.tup h))
  · exact .inl (.inr ⟨o, s _ _ h (fun _ z => by cases z)⟩)
  · exact .inr h
theorem ND.prog {H H' : Hp} (s : ND H H') {p : Addr} {rs : List Row} (h : ProgAt H p rs) : ProgAt H' p rs := by
  obtain ⟨as, h1, h2, h3⟩ := h
  exact ⟨as, s.tup h1, h2, fun i r e => let ⟨a, e1, e2⟩ := h3 i r e; ⟨a, e1, s.tup e2⟩⟩
theorem ND.prv {H H' : Hp} (s : ND H H') {v : V} {p : Price} (h : PrV H v p) : PrV H' v p := by
  cases p with
  | no => exact h
  | closed => obtain ⟨t, a, b⟩ := h; exact ⟨t, a, s.tup b⟩
  | int i => exact h
theorem ND.prices {H H' : Hp} (s : ND H H') {t : Addr} {ps : List Price} (h : PricesAt K H t ps) : PricesAt K H' t ps := by
  obtain ⟨vs, a, b, c⟩ := h
  exact ⟨vs, s.sqt a, b, fun i v p e1 e2 => s.prv (c i v p e1 e2)⟩
def sp_are_prices (K : PySem.W.Frag) : Sp := fun vs H Q _ => ∃ (p t : Addr) (rs : List Row) (ps : List Price) (one other : Nat) (beats : Int), vs = [.ref p, .ref t, .int (one : Int), .int (other : Int), .int beats] ∧ ProgAt H p rs ∧ PricesAt K H t ps ∧ ps.length = rs.length ∧ ps[one]? = some (.int 0) ∧ ps[other]? = some (.int beats) ∧ Q (.bl true) H
theorem sc_are_prices : FnScope ["program", "thing", "one", "other", "beats", "price"] ["program", "thing", "one", "other", "beats"] (defScope (topS 46)) := ⟨rfl, rfl, rfl, by decide +kernel, rfl, by decide +kernel, by decide +kernel⟩
theorem ok_are_prices (T : Txt K mg) : Ok P w K mg base 2 "are_prices" ["program", "thing", "one", "other", "beats"] (sp_are_prices K) := by
  obtain ⟨fd, F⟩ := T.d_are_prices
  obtain ⟨fd_is_int, G_is_int, kp_is_int, b_is_int⟩ := ok_is_int (P := P) (w := w) (base := base) T
  obtain ⟨fd_is_closed, G_is_closed, kp_is_closed, b_is_closed⟩ := ok_is_closed (P := P) (w := w) (base := base) T
  refine ⟨fd, F.ok sc_are_prices (fun vs H Q E h => ?_) (fun cdv A outer s H vs Q E hr h => ?_), F.kp, F.bindsN fun _ _ _ _ _ _ us hl => match us, hl with | [_, _, _, _, _], _ => rfl⟩
  · obtain ⟨p, t, rs, ps, one, other, beats, rfl, _⟩ := h
    rfl
  · obtain ⟨p, t, rs, ps, one, other, beats, rfl, hp, hps, hl, ho, hb, q⟩ := h
    have hu := hu_of hr
    refine ⟨_, PSs.nox (pss_cons (ps_if (PW.pt (pw_or (pt_not (pt_val (pe_callB call_isi (by rfl) T.z_isinstance (by decide +kernel) (pa_cons (pv 1) (pa_cons (pe_bltn (v := .ty "tuple") (by rfl) T.z_tuple (by decide +kernel) rfl) pa_nil))))) (pw_or1 (pt_cmpR op_ne (pe_callB call_len_seq (by rfl) T.z_len (by decide +kernel) (pa_cons (pv 1) pa_nil)) (pe_callB call_len_seq (by rfl) T.z_len (by decide +kernel) (pa_cons (pv 0) pa_nil)) (nomark _)))))
      (pss_one (ps_ret pe_bl))
      pss_nil)
      (pss_cons (ps_for PassesOwn.never rfl (pi_tup (pv 1)) (pg_name (i := 5) sc_are_prices.nd rfl (by first | exact Or.inl rfl | exact Or.inr rfl))
      (pss_one (ps_if (PW.pt (pw_and (pt_not (pt_val (pe_call G_is_int hr (by rfl) T.g_is_int kp_is_int b_is_int .nil pass0 (pa_cons (pv 5) pa_nil)))) (pw_and (pt_cmpR op_notN (pv 5) pe_non (nomark _)) (pw_and1 (pt_not (pt_val (pe_call G_is_closed hr (by rfl) T.g_is_closed kp_is_closed b_is_closed .nil pass0 (pa_cons (pv 5) pa_nil))))))))
      (pss_one (ps_ret pe_bl))
      pss_nil)))
      (pss_one (ps_ret (pe_and (pe_call G_is_int hr (by rfl) T.g_is_int kp_is_int b_is_int .nil pass0 (pa_cons (pe_ix ix_tup (pv 1) (pv 2) (fun _ _ => rfl)) pa_nil)) (pe_and (pe_cmpR op_eq (pe_ix ix_tup (pv 1) (pv 2) (fun _ _ => rfl)) pe_int (nomark _)) (pe_and (pe_call G_is_int hr (by rfl) T.g_is_int kp_is_int b_is_int .nil pass0 (pa_cons (pe_ix ix_tup (pv 1) (pv 3) (fun _ _ => rfl)) pa_nil)) (pe_one (pe_cmpR op_eq (pe_ix ix_tup (pv 1) (pv 3) (fun _ _ => rfl)) (pv 4) (nomark _)))))))))), ?_⟩
    obtain ⟨xs, w1, w2, w3⟩ := hp.walk
    obtain ⟨vs, v1, v2, v3⟩ := id hps
    refine ⟨_, rfl, ?_⟩
    refine isi (ty_tup v1) (b := true) (c := "tuple") (by decide +kernel) ?_
    refine ⟨true, rfl, ?_⟩
    refine ⟨_, rfl, t, _, rfl, .inr v1, _, rfl, p, _, rfl, .inr (sqT w1), rfl, false, by rw [v2, hl, ← w2, decide_eq_true rfl]; rfl, ?_⟩
    refine ⟨_, rfl, t, rfl, ⟨_, v1⟩, for_it (walk_tup (K := K) (a := t) (xs := vs)) (fun i σ H' => ∃ x1, σ = [some (.ref p), some (.ref t), some (.int (one : Int)), some (.int (other : Int)), some (.int beats), x1] ∧ H' = H) ⟨none, rfl, rfl⟩ (fun i σ H' _ ⟨_, _, e⟩ => by rw [e]; exact v1) ?_ ?_⟩
    · rintro i x σ H1 H' hi ⟨x1, rfl, rfl⟩ ⟨rfl, ex⟩
      have ep : ps[i]? = some (ps[i]'(by omega)) := List.getElem?_eq_getElem _
      have hv := v3 i x _ ex ep
      generalize ps[i]'(by omega) = pr at *
      cases pr with
      | no => exact ⟨_, rfl, _, _, rfl, hv, false, rfl, _, rfl, rfl, false, by rw [show x = .non from hv]; rfl, _, rfl, rfl⟩
      | closed => exact ⟨_, rfl, _, _, rfl, hv, false, rfl, _, rfl, rfl, true, by obtain ⟨u, e9, _⟩ := hv; rw [e9]; rfl, _, rfl, _, _, rfl, hv, true, rfl, _, rfl, rfl⟩
      | int j => exact ⟨_, rfl, _, _, rfl, hv, true, rfl, _, rfl, rfl⟩
    · rintro σ H' ⟨x1, rfl, rfl⟩
      obtain ⟨ws, v, a1, a2, a3⟩ := hps.at_ ho
      obtain ⟨ws2, v9, b1, b2, b3⟩ := hps.at_ hb
      refine ⟨_, rfl, _, rfl, t, _, _, _, rfl, rfl, a1, a2, _, _, rfl, a3, true, rfl, ?_⟩
      refine ⟨_, rfl, _, rfl, t, _, _, _, rfl, rfl, a1, a2, by rw [show v = .int 0 from a3]; rfl, true, by rw [show v = .int 0 from a3]; rfl, ?_⟩
      refine ⟨_, rfl, _, rfl, t, _, _, _, rfl, rfl, b1, b2, _, _, rfl, b3, true, rfl, ?_⟩
      refine ⟨_, rfl, _, rfl, t, _, _, _, rfl, rfl, b1, b2, _, rfl, by rw [show v9 = .int beats from b3]; rfl, ?_⟩
      show Q (.bl (decide (v9 = .int beats))) H'
      rw [decide_eq_true (show v9 = .int beats from b3)]
      exact q
/-- a next row's price is as told -/
def keepsP (k : Nat) (v e : Int) : Price → Prop
  | .no => False
  | .closed => True
  | .int q => if k = 0 then q ≤ v + e else v + e ≤ q
/-- the next rows' prices are as a row's own tells -/
def RK (G : Nat → List Edge) (wt : Nat → Bool) (ps : List Price) (other k i : Nat) : Prop := ∀ p, ps[i]? = some p → match p with
  | .no => True
  | .closed => ∀ e ∈ G i, wt e.1 = false → ps[e.1]? = some .closed
  | .int v => i = other ∨ ∀ e ∈ G i, wt e.1 = false → ∃ q, ps[e.1]? = some q ∧ keepsP k v (pk k e.2) q
def sp_price_keeps : Sp := fun vs H Q _ => ∃ (x : V) (q : Price) (v e : Int) (k : Nat), vs = [x, .int v, .int e, .int (k : Int)] ∧ PrV H x q ∧ (k = 0 ∨ k = 1) ∧ keepsP k v e q ∧ Q (.bl true) H
theorem sc_price_keeps : FnScope ["price", "ahead", "beats", "which"] ["price", "ahead", "beats", "which"] (defScope (topS 48)) := ⟨rfl, rfl, rfl, by decide +kernel, rfl, by decide +kernel, by decide +kernel⟩
theorem ok_price_keeps (T : Txt K mg) : Ok P w K mg base 2 "price_keeps" ["price", "ahead", "beats", "which"] (sp_price_keeps) := by
  obtain ⟨fd, F⟩ := T.d_price_keeps
  obtain ⟨fd_is_closed, G_is_closed, kp_is_closed, b_is_closed⟩ := ok_is_closed (P := P) (w := w) (base := base) T
  obtain ⟨fd_is_int, G_is_int, kp_is_int, b_is_int⟩ := ok_is_int (P := P) (w := w) (base := base) T
  obtain ⟨tLEAST, hLEAST⟩ := T.n_LEAST
  refine ⟨fd, F.ok sc_price_keeps (fun vs H Q E h => ?_) (fun cdv A outer s H vs Q E hr h => ?_), F.kp, F.bindsN fun _ _ _ _ _ _ us hl => match us, hl with | [_, _, _, _], _ => rfl⟩
  · obtain ⟨x, pr, v, e, k, rfl, _⟩ := h
    rfl
  · obtain ⟨x, pr, v, e, k, rfl, hv, hk, hq, q⟩ := h
    have hu := hu_of hr
    refine ⟨_, PSs.nox (pss_cons (ps_if (pt_val (pe_call G_is_closed hr (by rfl) T.g_is_closed kp_is_closed b_is_closed .nil pass0 (pa_cons (pv 0) pa_nil)))
      (pss_one (ps_ret pe_bl))
      pss_nil)
      (pss_cons (ps_if (pt_not (pt_val (pe_call G_is_int hr (by rfl) T.g_is_int kp_is_int b_is_int .nil pass0 (pa_cons (pv 0) pa_nil))))
      (pss_one (ps_ret pe_bl))
      pss_nil)
      (pss_one (ps_ret (pe_ifExp (pt_cmpR op_eq (pv 3) (pe_glob (v := .int 0) (by rfl) hLEAST ⟨_, rfl⟩) (nomark _)) (pe_cmpR op_le (pv 0) (pe_op op_add (pv 1) (pv 2)) (nomark _)) (pe_cmpR op_ge (pv 0) (pe_op op_add (pv 1) (pv 2)) (nomark _))))))), ?_⟩
    cases pr with
    | no => exact absurd hq (fun z => z)
    | closed => exact ⟨_, rfl, _, _, rfl, hv, true, rfl, q⟩
    | int j =>
      refine ⟨_, rfl, _, _, rfl, hv, false, rfl, ?_⟩
      refine ⟨_, rfl, _, _, rfl, hv, true, rfl, ?_⟩
      have hx : x = .int j := hv
      subst hx
      rcases hk with z | z <;> subst z
      · refine ⟨_, rfl, rfl, true, rfl, ?_⟩
        refine ⟨_, rfl, _, rfl, _, rfl, _, _, rfl, rfl, _, _, rfl, rfl, ?_⟩
        show Q (.bl (decide (j ≤ v + e))) H
        rw [decide_eq_true (show j ≤ v + e from hq)]
        exact q
      · refine ⟨_, rfl, rfl, false, rfl, ?_⟩
        refine ⟨_, rfl, _, rfl, _, rfl, _, _, rfl, rfl, _, _, rfl, rfl, ?_⟩
        show Q (.bl (decide (v + e ≤ j))) H
        rw [decide_eq_true (show v + e ≤ j from hq)]
        exact q
def sp_row_keeps (K : PySem.W.Frag) : Sp := fun vs H Q _ => ∃ (p s t : Addr) (rs : List Row) (G : Nat → List Edge) (wt : Nat → Bool) (ps : List Price) (i other k : Nat), vs = [.ref p, .ref s, .ref t, .int (i : Int), .int (other : Int), .int (k : Int)] ∧ ProgAt H p rs ∧ StepsAt H s rs.length G ∧ GrOk G rs.length ∧ Waits rs wt ∧ PricesAt K H t ps ∧ ps.length = rs.length ∧ i < rs.length ∧ (k = 0 ∨ k = 1) ∧ RK G wt ps other k i ∧ ∀ H', Same H H' → Q (.bl true) H'
theorem sc_row_keeps : FnScope ["program", "steps", "prices", "row", "other", "which", "price", "following", "pair"] ["program", "steps", "prices", "row", "other", "which"] (defScope (topS 49)) := ⟨rfl, rfl, rfl, by decide +kernel, rfl, by decide +kernel, by decide +kernel⟩
theorem ok_row_keeps (T : Txt K mg) : Ok P w K mg base 3 "row_keeps" ["program", "steps", "prices", "row", "other", "which"] (sp_row_keeps K) := by
  obtain ⟨fd, F⟩ := T.d_row_keeps
  obtain ⟨fd_is_closed, G_is_closed, kp_is_closed, b_is_closed⟩ := ok_is_closed (P := P) (w := w) (base := base) T
  obtain ⟨fd_is_wait, G_is_wait, kp_is_wait, b_is_wait⟩ := ok_is_wait (P := P) (w := w) (base := base) T
  obtain ⟨fd_price_keeps, G_price_keeps, kp_price_keeps, b_price_keeps⟩ := ok_price_keeps (P := P) (w := w) (base := base) T
  refine ⟨fd, F.ok sc_row_keeps (fun vs H Q E h => ?_) (fun cdv A outer s H vs Q E hr h => ?_), F.kp, F.bindsN fun _ _ _ _ _ _ us hl => match us, hl with | [_, _, _, _, _, _], _ => rfl⟩
  · obtain ⟨p, s, t, rs, G, wt, ps, i, other, k, rfl, _⟩ := h
    rfl
  · obtain ⟨p, s, t, rs, G, wt, ps, i, other, k, rfl, hp, hs, hg, hw, hps, hl, hi, hk, hr9, q⟩ := h
    have hu := hu_of hr
    refine ⟨_, PSs.nox (pss_cons (ps_set (i := 6) sc_row_keeps.nd rfl (by first | exact Or.inl rfl | exact Or.inr rfl) (pe_ix ix_tup (pv 2) (pv 3) (fun _ _ => rfl)))
      (pss_cons (ps_if (PW.pt (pw_or (pt_cmpR op_isN (pv 6) pe_non (nomark _)) (pw_or1 (PW.pt (pw_and (pt_cmpR op_eq (pv 3) (pv 4) (nomark _)) (pw_and1 (pt_not (pt_val (pe_call G_is_closed (hr.mono (by decide)) (by rfl) T.g_is_closed kp_is_closed b_is_closed .nil pass0 (pa_cons (pv 6) pa_nil))))))))))
      (pss_one (ps_ret pe_bl))
      pss_nil)
      (pss_cons (ps_lock (ps_for PassesOwn.never rfl (pi_items (pe_ix ix_list (pv 1) (pv 3) (fun _ _ => rfl))) (pg_tup rfl (pgs_cons (pg_name (i := 7) sc_row_keeps.nd rfl (by first | exact Or.inl rfl | exact Or.inr rfl)) (pgs_cons (pg_name (i := 8) sc_row_keeps.nd rfl (by first | exact Or.inl rfl | exact Or.inr rfl)) pgs_nil)))
      (pss_one (ps_if (pt_not (pt_val (pe_call G_is_wait (hr.mono (by decide)) (by rfl) T.g_is_wait kp_is_wait b_is_wait .nil pass0 (pa_cons (pv 0) (pa_cons (pv 7) pa_nil)))))
      (pss_cons (ps_if (PW.pt (pw_and (pt_val (pe_call G_is_closed (hr.mono (by decide)) (by rfl) T.g_is_closed kp_is_closed b_is_closed .nil pass0 (pa_cons (pv 6) pa_nil))) (pw_and1 (pt_not (pt_val (pe_call G_is_closed (hr.mono (by decide)) (by rfl) T.g_is_closed kp_is_closed b_is_closed .nil pass0 (pa_cons (pe_ix ix_tup (pv 2) (pv 7) (fun _ _ => rfl)) pa_nil)))))))
      (pss_one (ps_ret pe_bl))
      pss_nil)
      (pss_one (ps_if (PW.pt (pw_and (pt_not (pt_val (pe_call G_is_closed (hr.mono (by decide)) (by rfl) T.g_is_closed kp_is_closed b_is_closed .nil pass0 (pa_cons (pv 6) pa_nil)))) (pw_and1 (pt_not (pt_val (pe_call G_price_keeps hr (by rfl) T.g_price_keeps kp_price_keeps b_price_keeps .nil pass0 (pa_cons (pe_ix ix_tup (pv 2) (pv 7) (fun _ _ => rfl)) (pa_cons (pv 6) (pa_cons (pe_ix ix_tup (pv 8) (pv 5) (fun _ _ => rfl)) (pa_cons (pv 5) pa_nil))))))))))
      (pss_one (ps_ret pe_bl))
      pss_nil)))
      pss_nil))))
      (pss_one (ps_ret pe_bl))))), ?_⟩
    have ep : ps[i]? = some (ps[i]'(by omega)) := List.getElem?_eq_getElem _
    have hr2 := hr9 _ ep
    generalize ps[i]'(by omega) = pr at *
    obtain ⟨ws, v, a1, a2, a3⟩ := hps.at_ ep
    refine ⟨_, rfl, _, rfl, t, _, _, _, rfl, rfl, a1, a2, ?_⟩
    by_cases hno : pr = .no
    · subst hno
      exact ⟨_, rfl, rfl, true, congrArg V.bl (decide_eq_true a3), q _ (Same.refl _)⟩
    refine ⟨_, rfl, rfl, false, congrArg V.bl (decide_eq_false (fun z => ?_)), ?_⟩
    · cases pr with
      | no => exact hno rfl
      | closed => obtain ⟨u, e9, _⟩ := a3; rw [e9] at z; cases z
      | int j => rw [show v = .int j from a3] at z; cases z
    obtain ⟨xs, d, es, h1, h2, h3, h4⟩ := hs.row hi
    obtain ⟨kvs, k1, k2, k3⟩ := h4
    have nd1 := ND.lock (o := .dK kvs) k1
    by_cases hint : ∃ j, pr = .int j ∧ i = other
    · obtain ⟨j, rfl, rfl⟩ := hint
      exact ⟨_, rfl, _, rfl, rfl, true, congrArg V.bl (decide_eq_true rfl), _, rfl, _, _, rfl, a3, false, rfl, q _ (Same.refl _)⟩
    have go : ∀ e ∈ G i, wt e.1 = false → ∃ q, ps[e.1]? = some q ∧ (pr = .closed → q = .closed) ∧ ∀ j, pr = .int j → keepsP k j (pk k e.2) q := by
      intro e he hwe
      cases pr with
      | no => exact absurd rfl hno
      | closed => exact ⟨_, hr2 e he hwe, fun _ => rfl, fun j z => by cases z⟩
      | int j =>
        rcases hr2 with z | z
        · exact absurd ⟨j, rfl, z⟩ hint
        · obtain ⟨q9, g1, g2⟩ := z e he hwe
          exact ⟨q9, g1, fun z => (by cases z), fun j9 z9 => (by cases z9; exact g2)⟩
    have hcl : i = other → pr.isClosed = true := by
      intro z
      cases pr with
      | no => exact absurd rfl hno
      | closed => rfl
      | int j => exact absurd ⟨j, rfl, z⟩ hint
    refine ⟨_, rfl, _, rfl, rfl, _, rfl, (fun rest => ite2 (fun e => ⟨_, rfl, _, pr, rfl, a3, true, congrArg V.bl (hcl (by have := V.int.inj (of_decide_eq_true e); omega)), rest⟩) (fun _ => rest)) ?_⟩
    refine ⟨d, _, k1, trivial, fun od => ?_⟩
    have nd := ND.lock (o := .frz od (.dK kvs)) k1
    have hd : upd H d (.frz od (.dK kvs)) d = some (.frz od (.dK kvs)) := upd_same
    have k3' : ∀ (i : Nat) (e : Edge), es[i]? = some e → ∃ t, kvs[i]? = some (Sum.inl (e.1 : Int), .ref t) ∧ upd H d (.frz od (.dK kvs)) t = some (.tup [.int e.2.1, .int e.2.2]) := fun i e z => let ⟨t, a, b⟩ := k3 i e z; ⟨t, a, nd.tup b⟩
    have a3' := nd.prv a3
    have hp' := nd.prog hp
    have hps' := nd.prices hps
    have h1' : upd H d (.frz od (.dK kvs)) s = some (.lst xs) := nd _ _ h1 (fun _ z => by cases z)
    have fin : ∀ H', Same (upd H d (.frz od (.dK kvs))) H' → Same H (upd H' d (.dK kvs)) := fun H' s => lockS k1 s
    generalize upd H d (.frz od (.dK kvs)) = HL at *
    refine ⟨_, rfl, _, rfl, s, _, _, _, rfl, rfl, sqL h1', h2, d, od, kvs, rfl, hd, for_it walk_items (fun i9 σ H' => ∃ x7 x8, σ = [some (.ref p), some (.ref s), some (.ref t), some (.int (i : Int)), some (.int (other : Int)), some (.int (k : Int)), some v, x7, x8] ∧ Same HL H') ⟨none, none, rfl, Same.refl _⟩ (fun i9 σ H' _ ⟨_, _, _, e⟩ => e _ _ hd) ?_ ?_⟩
    · rintro i9 x σ H1 H' hi9 ⟨x7, x8, rfl, s1⟩ ⟨T9, y1, y2, rfl, nT, rfl, e1, e2⟩
      have ee : es[i9]? = some (es[i9]'(by omega)) := List.getElem?_eq_getElem _
      obtain ⟨t9, g1, g2⟩ := k3' i9 _ ee
      have hem : es[i9]'(by omega) ∈ G i := h3.mem_iff.mp (List.getElem_mem _)
      generalize es[i9]'(by omega) = ed at *
      change Option.map (fun kv : Key × V => kV kv.1) kvs[i9]? = some y1 at e1
      change Option.map (fun kv : Key × V => kv.2) kvs[i9]? = some y2 at e2
      rw [g1] at e1 e2
      cases e1
      cases e2
      have s2 := s1.trans (same_new (o := .tup [kV (Sum.inl (ed.1 : Int)), .ref t9]) nT)
      have eT : upd H1 T9 (.tup [kV (Sum.inl (ed.1 : Int)), .ref t9]) T9 = some (.tup [kV (Sum.inl (ed.1 : Int)), .ref t9]) := upd_same
      generalize upd H1 T9 (.tup [kV (Sum.inl (ed.1 : Int)), .ref t9]) = H2 at *
      refine ⟨T9, _, rfl, sqT eT, rfl, _, _, rfl, _, _, rfl, rfl, ?_⟩
      obtain ⟨lt9, _⟩ := hg.ed i hi ed hem
      obtain ⟨r, er⟩ := row_at lt9
      cases hwe : wt ed.1 with
      | true => exact ⟨_, rfl, _, rfl, p, rs, ed.1, r, rfl, hp'.same s2, er, true, by rw [← hw ed.1 r er, hwe], _, _, rfl, s2⟩
      | false =>
        obtain ⟨q9, u1, u2, u3⟩ := go ed hem hwe
        obtain ⟨ws2, v9, b1, b2, b3⟩ := (hps'.same s2).at_ u1
        refine ⟨_, rfl, _, rfl, p, rs, ed.1, r, rfl, hp'.same s2, er, false, by rw [← hw ed.1 r er, hwe], ?_⟩
        cases pr with
        | no => exact absurd rfl hno
        | closed =>
          cases u2 rfl
          refine ⟨_, rfl, _, _, rfl, a3'.same s2, true, rfl, ?_⟩
          refine ⟨_, rfl, _, rfl, t, _, _, _, rfl, rfl, b1, b2, _, _, rfl, b3, true, rfl, ?_⟩
          exact ⟨_, rfl, _, _, rfl, a3'.same s2, true, rfl, _, _, rfl, s2⟩
        | int j =>
          cases (show v = .int j from a3)
          refine ⟨_, rfl, _, .int j, rfl, rfl, false, rfl, ?_⟩
          refine ⟨_, rfl, _, .int j, rfl, rfl, false, rfl, ?_⟩
          have ek : atI [V.int ed.2.1, V.int ed.2.2] (k : Int) = some (.int (pk k ed.2)) := by
            rcases hk with z | z <;> subst z <;> rfl
          refine ⟨_, rfl, _, rfl, t, _, _, _, rfl, rfl, b1, b2, _, rfl, _, rfl, _, rfl, t9, _, _, _, rfl, rfl, sqT (s2 _ _ g2), ek, _, rfl, ?_⟩
          exact ⟨_, q9, j, pk k ed.2, k, rfl, b3, hk, u3 j rfl, true, rfl, _, _, rfl, s2⟩
    · rintro σ H' ⟨x7, x8, rfl, s1⟩
      exact ⟨s1 _ _ hd, q _ (fin H' s1)⟩
def sp_is_priced (K : PySem.W.Frag) : Sp := fun vs H Q _ => ∃ (p s t tw tp : Addr) (rs : List Row) (G : Nat → List Edge) (wt : Nat → Bool) (ps : List Price) (w : List Nat) (one other k : Nat) (beats : Int), vs = [.ref p, .ref s, .int (one : Int), .int (other : Int), .ref t, .int (k : Int)] ∧ ProgAt H p rs ∧ rs.length ≤ 120 ∧ StepsAt H s rs.length G ∧ GrOk G rs.length ∧ Waits rs wt ∧ SqT K H t [.int beats, .ref tw, .ref tp] ∧ SqT K H tw (nV w) ∧ PricesAt K H tp ps ∧ ps.length = rs.length ∧ WayOk G wt rs.length one other w ∧ wsum G k w = beats ∧ ps[one]? = some (.int 0) ∧ ps[other]? = some (.int beats) ∧ (k = 0 ∨ k = 1) ∧ (∀ i, i < rs.length → RK G wt ps other k i) ∧ ∀ H', Same H H' → Q (.bl true) H'
theorem sc_is_priced : FnScope ["program", "steps", "one", "other", "paper", "which", "beats", "way", "prices", "row"] ["program", "steps", "one", "other", "paper", "which"] (defScope (topS 50)) := ⟨rfl, rfl, rfl, by decide +kernel, rfl, by decide +kernel, by decide +kernel⟩
theorem ok_is_priced (T : Txt K mg) : Ok P w K mg base 4 "is_priced" ["program", "steps", "one", "other", "paper", "which"] (sp_is_priced K) := by
  obtain ⟨fd, F⟩ := T.d_is_priced
  obtain ⟨fd_is_int, G_is_int, kp_is_int, b_is_int⟩ := ok_is_int (P := P) (w := w) (base := base) T
  obtain ⟨fd_is_way, G_is_way, kp_is_way, b_is_way⟩ := ok_is_way (P := P) (w := w) (base := base) T
  obtain ⟨fd_way_beats, G_way_beats, kp_way_beats, b_way_beats⟩ := ok_way_beats (P := P) (w := w) (base := base) T
  obtain ⟨fd_are_prices, G_are_prices, kp_are_prices, b_are_prices⟩ := ok_are_prices (P := P) (w := w) (base := base) T
  obtain ⟨fd_row_keeps, G_row_keeps, kp_row_keeps, b_row_keeps⟩ := ok_row_keeps (P := P) (w := w) (base := base) T
  refine ⟨fd, F.ok sc_is_priced (fun vs H Q E h => ?_) (fun cdv A outer s H vs Q E hr h => ?_), F.kp, F.bindsN fun _ _ _ _ _ _ us hl => match us, hl with | [_, _, _, _, _, _], _ => rfl⟩
  · obtain ⟨p, s, t, tw, tp, rs, G, wt, ps, w, one, other, k, beats, rfl, _⟩ := h
    rfl
  · obtain ⟨p, s, t, tw, tp, rs, G, wt, ps, w, one, other, k, beats, rfl, hp, hl120, hs, hg, hw, ht, htw, hps, hl, ok, hsum, h1, h2, hk, rk, q⟩ := h
    have hu := hu_of hr
    refine ⟨_, PSs.nox (pss_cons (ps_asg (pv 4) (pg_tup rfl (pgs_cons (pg_name (i := 6) sc_is_priced.nd rfl (by first | exact Or.inl rfl | exact Or.inr rfl)) (pgs_cons (pg_name (i := 7) sc_is_priced.nd rfl (by first | exact Or.inl rfl | exact Or.inr rfl)) (pgs_cons (pg_name (i := 8) sc_is_priced.nd rfl (by first | exact Or.inl rfl | exact Or.inr rfl)) pgs_nil)))))
      (pss_cons (ps_if (PW.pt (pw_or (pt_not (pt_val (pe_call G_is_int (hr.mono (by decide)) (by rfl) T.g_is_int kp_is_int b_is_int .nil pass0 (pa_cons (pv 6) pa_nil)))) (pw_or1 (pt_not (pt_val (pe_call G_is_way hr (by rfl) T.g_is_way kp_is_way b_is_way .nil pass0 (pa_cons (pv 0) (pa_cons (pv 1) (pa_cons (pv 2) (pa_cons (pv 3) (pa_cons (pv 7) pa_nil)))))))))))
      (pss_one (ps_ret pe_bl))
      pss_nil)
      (pss_cons (ps_if (PW.pt (pw_or (pt_cmpR op_ne (pe_call G_way_beats (hr.mono (by decide)) (by rfl) T.g_way_beats kp_way_beats b_way_beats .nil pass0 (pa_cons (pv 1) (pa_cons (pv 7) (pa_cons (pv 5) pa_nil)))) (pv 6) (nomark _)) (pw_or1 (pt_not (pt_val (pe_call G_are_prices (hr.mono (by decide)) (by rfl) T.g_are_prices kp_are_prices b_are_prices .nil pass0 (pa_cons (pv 0) (pa_cons (pv 8) (pa_cons (pv 2) (pa_cons (pv 3) (pa_cons (pv 6) pa_nil)))))))))))
      (pss_one (ps_ret pe_bl))
      pss_nil)
      (pss_cons (ps_for PassesOwn.never rfl (pi_range1 (by rfl) T.z_range (pa_cons (pe_callB call_len_seq (by rfl) T.z_len (by decide +kernel) (pa_cons (pv 0) pa_nil)) pa_nil)) (pg_name (i := 9) sc_is_priced.nd rfl (by first | exact Or.inl rfl | exact Or.inr rfl))
      (pss_one (ps_if (pt_not (pt_val (pe_call G_row_keeps hr (by rfl) T.g_row_keeps kp_row_keeps b_row_keeps .nil pass0 (pa_cons (pv 0) (pa_cons (pv 1) (pa_cons (pv 8) (pa_cons (pv 9) (pa_cons (pv 3) (pa_cons (pv 5) pa_nil)))))))))
      (pss_one (ps_ret pe_bl))
      pss_nil)))
      (pss_one (ps_ret pe_bl)))))), ?_⟩
    refine ⟨_, rfl, t, _, rfl, ht, rfl, _, _, rfl, _, _, rfl, _, _, rfl, rfl, ?_⟩
    refine ⟨_, rfl, _, .int beats, rfl, rfl, true, rfl, ?_⟩
    refine ⟨_, rfl, _, rfl, _, rfl, _, rfl, _, rfl, p, s, tw, rs, G, wt, one, other, w, rfl, hp, hs, hg, hw, htw, ok, fun H1 s1 => ⟨true, rfl, ?_⟩⟩
    refine ⟨_, rfl, _, rfl, _, rfl, s, tw, rs.length, k, G, w, rfl, hs.same s1, hg, same_t s1 htw, ok.lt, ok.ch, hk, fun H2 s2 => ⟨_, rfl, rfl, false, by rw [hsum, decide_eq_true rfl]; rfl, ?_⟩⟩
    have s12 := s1.trans s2
    refine ⟨_, rfl, _, rfl, _, rfl, _, rfl, _, rfl, p, tp, rs, ps, one, other, beats, rfl, hp.same s12, hps.same s12, hl, h1, h2, true, rfl, ?_⟩
    obtain ⟨xs, w1, w2, w3⟩ := (hp.same s12).walk
    refine ⟨_, rfl, p, _, rfl, .inr (sqT w1), _, rfl, by omega, by omega, for_it walk_rng (fun i σ H' => ∃ x9, σ = [some (.ref p), some (.ref s), some (.int (one : Int)), some (.int (other : Int)), some (.ref t), some (.int (k : Int)), some (.int beats), some (.ref tw), some (.ref tp), x9] ∧ Same H2 H') ⟨none, rfl, Same.refl _⟩ (fun _ _ _ _ _ => trivial) ?_ ?_⟩
    · rintro i x σ H3 H' hi ⟨x9, rfl, s3⟩ ⟨rfl, rfl⟩
      have s123 := s12.trans s3
      have hi2 : i < rs.length := by omega
      refine ⟨_, rfl, _, rfl, _, rfl, _, rfl, _, rfl, _, rfl, p, s, tp, rs, G, wt, ps, i, other, k, rfl, hp.same s123, hs.same s123, hg, hw, hps.same s123, hl, hi2, hk, rk i hi2, fun H4 s4 => ?_⟩
      exact ⟨true, rfl, _, rfl, s3.trans s4⟩
    · rintro σ H' ⟨x9, rfl, s3⟩
      exact q _ (s12.trans s3)
def Ends (rs : List Row) (one other : Nat) : Prop := one ≠ other ∧ ∀ x, x = one ∨ x = other → ∃ r, rs[x]? = some r ∧ r.deed ≠ ("wait" : Str) ∧ r.deed ≠ ("data" : Str)
def sp_are_ends (K : PySem.W.Frag) : Sp := fun vs H Q _ => ∃ (p : Addr) (rs : List Row) (one other : Nat), vs = [.ref p, .int (one : Int), .int (other : Int)] ∧ ProgAt H p rs ∧ Ends rs one other ∧ ∀ H', Same H H' → Q (.bl true) H'
theorem sc_are_ends : FnScope ["program", "one", "other", "bad", "row"] ["program", "one", "other"] (defScope (topS 51)) := ⟨rfl, rfl, rfl, by decide +kernel, rfl, by decide +kernel, by decide +kernel⟩
theorem ok_are_ends (T : Txt K mg) : Ok P w K mg base 2 "are_ends" ["program", "one", "other"] (sp_are_ends K) := by
  obtain ⟨fd, F⟩ := T.d_are_ends
  obtain ⟨fd_is_wait, G_is_wait, kp_is_wait, b_is_wait⟩ := ok_is_wait (P := P) (w := w) (base := base) T
  obtain ⟨fd_is_table, G_is_table, kp_is_table, b_is_table⟩ := ok_is_table (P := P) (w := w) (base := base) T
  refine ⟨fd, F.ok sc_are_ends (fun vs H Q E h => ?_) (fun cdv A outer s H vs Q E hr h => ?_), F.kp, F.bindsN fun _ _ _ _ _ _ us hl => match us, hl with | [_, _, _], _ => rfl⟩
  · obtain ⟨p, rs, one, other, rfl, _⟩ := h
    rfl
  · obtain ⟨p, rs, one, other, rfl, hp, he, q⟩ := h
    have hu := hu_of hr
    refine ⟨_, PSs.nox (pss_cons (ps_setLc (i := 3) (own := [("row", 4)]) rfl sc_are_ends.nd rfl rfl (sw_true rfl rfl rfl (by decide +kernel)) (pi_tup (pe_tup (pa_cons (pv 1) (pa_cons (pv 2) pa_nil)))) (blkOk_by (N := ["program", "one", "other", "bad", "row"]) (sc := defScope (topS 51)) (by decide +kernel)) (fun _ _ _ _ _ => (pg_name (i := 4) sc_are_ends.nd rfl (by first | exact Or.inl rfl | exact Or.inr rfl))) (fun _ _ _ _ _ => (pts_one (PW.pt (pw_or (pt_val (pe_call G_is_wait hr (by rfl) T.g_is_wait kp_is_wait b_is_wait .nil pass0 (pa_cons (pv 0) (pa_cons (pv 4) pa_nil)))) (pw_or1 (pt_val (pe_call G_is_table hr (by rfl) T.g_is_table kp_is_table b_is_table .nil pass0 (pa_cons (pe_ix (r := rIxT K) ix_tup (pv 0) (pv 4) (fun _ _ => rfl)) pa_nil)))))))) (fun _ _ _ _ _ => (pv 4)))
      (pss_one (ps_ret (pe_and (pe_cmpR op_ne (pv 1) (pv 2) (nomark _)) (pe_one (pe_cmpR op_eq (pe_callB call_len_seq (by rfl) T.z_len (by decide +kernel) (pa_cons (pv 3) pa_nil)) pe_int (nomark _))))))), ?_⟩
    obtain ⟨e1, e2⟩ := he
    have s0 : ∀ t, H t = none → Same H (upd H t (.tup [.int (one : Int), .int (other : Int)])) := fun t nt => same_new nt
    refine ⟨_, rfl, _, rfl, by show 2 ≤ sizeLine; decide, fun t nt => ?_⟩
    have st := s0 t nt
    have et : upd H t (.tup [.int (one : Int), .int (other : Int)]) t = some (.tup [.int (one : Int), .int (other : Int)]) := upd_same
    generalize upd H t (.tup [.int (one : Int), .int (other : Int)]) = H0 at *
    refine ⟨t, rfl, ⟨_, sqT et⟩, fun D nD => ?_⟩
    refine lc_st (walk_tup (K := K) (a := t) (xs := [.int (one : Int), .int (other : Int)])) (fun i acc H' => Same H0 H' ∧ acc = []) ⟨same_new nD, rfl⟩ (fun i acc _ _ H' _ ⟨s, e⟩ => ⟨same_mut s nD, e⟩) (fun i acc H' _ ⟨s, e⟩ => sqT (s _ _ et)) (fun i acc H' hi ⟨s, e⟩ => ?_) (fun i x acc H1 H2 hi eD ⟨s, e⟩ ⟨eH, ex⟩ Qy Qn ky kn => ?_) (fun acc H' eD ⟨s, e⟩ => ?_)
    · rw [e]
      exact szl (by decide)
    · subst eH
      obtain ⟨n, hn, rfl⟩ : ∃ n : Nat, (n = one ∨ n = other) ∧ x = .int (n : Int) := by
        match i, ex with
        | 0, ex => exact ⟨one, .inl rfl, (Option.some.inj ex).symm⟩
        | 1, ex => exact ⟨other, .inr rfl, (Option.some.inj ex).symm⟩
        | i + 2, ex => simp at ex
      obtain ⟨r, er, r1, r2⟩ := e2 n hn
      have hp2 := hp.same (st.trans s)
      obtain ⟨xs, a, h1, h2, h3⟩ := hp2.row er
      exact ⟨rfl, _, rfl, _, rfl, p, rs, n, r, rfl, hp2, er, false, congrArg V.bl (decide_eq_false r1), _, rfl, _, rfl, p, _, _, _, rfl, rfl, sqT h1, h2, a, r, rfl, h3, false, congrArg V.bl (decide_eq_false r2), kn _ eD ⟨s, e⟩⟩
    · subst e
      refine ⟨_, rfl, _, rfl, rfl, true, ?_, ?_⟩
      · rw [decide_eq_false (fun z => e1 (by have := V.int.inj z; omega))]
        rfl
      refine ⟨_, rfl, D, _, rfl, .inl (sqL eD), rfl, ?_⟩
      show Q (.bl (decide (V.int ((0 : Nat) : Int) = V.int 0))) H'
      rw [show decide (V.int ((0 : Nat) : Int) = V.int 0) = true from decide_eq_true rfl]
      exact q _ (st.trans s)
/-- a program with its base -/
structure PO (rs : List Row) (b : Int) : Prop where
  l120 : rs.length ≤ 120
  fit : b + longOf rs ≤ 256
  g : ∃ g, g ≤ rs.length ∧ (∀ n r, rs[n]? = some r → RowOk rs g n r) ∧ ∀ i r, i < g → rs[i]? = some r → r.deed ≠ ("data" : Str)
structure PaperOk (G : Nat → List Edge) (wt : Nat → Bool) (n one other k : Nat) (beats : Int) (w : List Nat) (ps : List Price) : Prop where
  len : ps.length = n
  way : WayOk G wt n one other w
  sum : wsum G k w = beats
  p1 : ps[one]? = some (.int 0)
  p2 : ps[other]? = some (.int beats)
  rk : ∀ i, i < n → RK G wt ps other k i
def PaperAt (K : PySem.W.Frag) (H : Hp) (t : Addr) (beats : Int) (w : List Nat) (ps : List Price) : Prop := ∃ tw tp, SqT K H t [.int beats, .ref tw, .ref tp] ∧ SqT K H tw (nV w) ∧ PricesAt K H tp ps
theorem PaperAt.same {H H' : Hp} {t : Addr} {beats : Int} {w : List Nat} {ps : List Price} (s : Same H H') (h : PaperAt K H t beats w ps) : PaperAt K H' t beats w ps := by
  obtain ⟨tw, tp, a, b, c⟩ := h
  exact ⟨tw, tp, same_t s a, same_t s b, c.same s⟩
inductive High where
  | most (b : Int) (w : List Nat) (ps : List Price)
  | round (w u : List Nat)
def HighAt (K : PySem.W.Frag) (H : Hp) (t : Addr) : High → Prop
  | .most b w ps => ∃ tw tp, SqT K H t [.str ("most" : Str), .int b, .ref tw, .ref tp] ∧ SqT K H tw (nV w) ∧ PricesAt K H tp ps
  | .round w u => ∃ tw tu, SqT K H t [.str ("round" : Str), .ref tw, .ref tu] ∧ (∃ o : Obj, H tw = some (.frz o (.tup (nV w))) ∧ o.dict = none) ∧ SqT K H tu (nV u)
theorem HighAt.same {H H' : Hp} {t : Addr} {x : High} (s : Same H H') (h : HighAt K H t x) : HighAt K H' t x := by
  cases x with
  | most b w ps =>
    obtain ⟨tw, tp, a, b, c⟩ := h
    exact ⟨tw, tp, same_t s a, same_t s b, c.same s⟩
  | round w u =>
    obtain ⟨tw, tp, a, ⟨o, b, b2⟩, c⟩ := h
    exact ⟨tw, tp, same_t s a, ⟨o, s _ _ b, b2⟩, same_t s c⟩
structure TurnOk (G : Nat → List Edge) (wt : Nat → Bool) (n other : Nat) (w u : List Nat) : Prop where
  two : 2 ≤ u.length
  most : u.length ≤ 200
  lt : ∀ x ∈ u, x < n
  ch : Chn (InE G) u
  ends : ∃ x, u[0]? = some x ∧ u.getLast? = some x ∧ x ∈ w
  mid : ∀ x ∈ u, wt x = false ∧ x ≠ other
def HighOk (G : Nat → List Edge) (wt : Nat → Bool) (n one other : Nat) : High → Prop
  | .most b w ps => PaperOk G wt n one other 1 b w ps
  | .round w u => WayOk G wt n one other w ∧ TurnOk G wt n other w u
theorem in_nV (x : Nat) (w : List Nat) : inV (.int (x : Int)) (nV w) = decide (x ∈ w) := by
  rw [nV_int, inV_int, List.any_map]
  by_cases h : x ∈ w
  · rw [decide_eq_true h]
    exact List.any_eq_true.mpr ⟨x, h, by simp⟩
  · rw [decide_eq_false h]
    refine Bool.eq_false_iff.mpr fun z => ?_
    obtain ⟨y, hy, e⟩ := List.any_eq_true.mp z
    have e2 : (y : Int) = (x : Int) := by simpa using e
    have e3 : y = x := by omega
    exact h (e3 ▸ hy)
def sp_right_low (K : PySem.W.Frag) : Sp := fun vs H Q _ => ∃ (p t : Addr) (rs : List Row) (b : Int) (wt : Nat → Bool) (one other : Nat) (beats : Int) (w : List Nat) (ps : List Price), vs = [.ref p, .int b, .int (one : Int), .int (other : Int), .ref t] ∧ ProgAt H p rs ∧ PO rs b ∧ GrOk (nxOf b rs) rs.length ∧ Waits rs wt ∧ Ends rs one other ∧ PaperAt K H t beats w ps ∧ PaperOk (nxOf b rs) wt rs.length one other 0 beats w ps ∧ ∀ H', Same H H' → Q (.bl true) H'
theorem sc_right_low : FnScope ["program", "base", "one", "other", "thing", "steps"] ["program", "base", "one", "other", "thing"] (defScope (topS 52)) := ⟨rfl, rfl, rfl, by decide +kernel, rfl, by decide +kernel, by decide +kernel⟩
theorem ok_right_low (T : Txt K mg) : Ok P w K mg base 7 "right_low" ["program", "base", "one", "other", "thing"] (sp_right_low K) := by
  obtain ⟨fd, F⟩ := T.d_right_low
  obtain ⟨fd_all_steps, G_all_steps, kp_all_steps, b_all_steps⟩ := ok_all_steps (P := P) (w := w) (base := base) T
  obtain ⟨fd_are_ends, G_are_ends, kp_are_ends, b_are_ends⟩ := ok_are_ends (P := P) (w := w) (base := base) T
  obtain ⟨fd_is_priced, G_is_priced, kp_is_priced, b_is_priced⟩ := ok_is_priced (P := P) (w := w) (base := base) T
  obtain ⟨tLEAST, hLEAST⟩ := T.n_LEAST
  refine ⟨fd, F.ok sc_right_low (fun vs H Q E h => ?_) (fun cdv A outer s H vs Q E hr h => ?_), F.kp, F.bindsN fun _ _ _ _ _ _ us hl => match us, hl with | [_, _, _, _, _], _ => rfl⟩
  · obtain ⟨p, t, rs, b, wt, one, other, beats, w, ps, rfl, _⟩ := h
    rfl
  · obtain ⟨p, t, rs, b, wt, one, other, beats, w, ps, rfl, hp, po, hg, hw, he, ht, ok, q⟩ := h
    have hu := hu_of hr
    refine ⟨_, PSs.nox (pss_cons (ps_set (i := 5) sc_right_low.nd rfl (by first | exact Or.inl rfl | exact Or.inr rfl) (pe_call G_all_steps hr (by rfl) T.g_all_steps kp_all_steps b_all_steps .nil pass0 (pa_cons (pv 0) (pa_cons (pv 1) pa_nil))))
      (pss_cons (ps_if (PW.pt (pw_or (pt_not (pt_val (pe_call G_are_ends (hr.mono (by decide)) (by rfl) T.g_are_ends kp_are_ends b_are_ends .nil pass0 (pa_cons (pv 0) (pa_cons (pv 2) (pa_cons (pv 3) pa_nil)))))) (pw_or (pt_not (pt_val (pe_callB call_isi (by rfl) T.z_isinstance (by decide +kernel) (pa_cons (pv 4) (pa_cons (pe_bltn (v := .ty "tuple") (by rfl) T.z_tuple (by decide +kernel) rfl) pa_nil))))) (pw_or1 (pt_cmpR op_ne (pe_callB call_len_seq (by rfl) T.z_len (by decide +kernel) (pa_cons (pv 4) pa_nil)) pe_int (nomark _))))))
      (pss_one (ps_ret pe_bl))
      pss_nil)
      (pss_one (ps_ret (pe_call G_is_priced (hr.mono (by decide)) (by rfl) T.g_is_priced kp_is_priced b_is_priced .nil pass0 (pa_cons (pv 0) (pa_cons (pv 5) (pa_cons (pv 2) (pa_cons (pv 3) (pa_cons (pv 4) (pa_cons (pe_glob (v := .int 0) (by rfl) hLEAST ⟨_, rfl⟩) pa_nil))))))))))), ?_⟩
    obtain ⟨g, g1, g2, g3⟩ := po.g
    refine ⟨_, rfl, _, rfl, p, rs, b, g, rfl, hp, po.l120, po.fit, g2, g1, fun H1 s s1 hs => ?_⟩
    refine ⟨_, rfl, _, rfl, _, rfl, p, rs, one, other, rfl, hp.same s1, he, fun H2 s2 => ⟨true, rfl, ?_⟩⟩
    have s12 := s1.trans s2
    obtain ⟨tw, tp, t1, t2, t3⟩ := ht.same s12
    refine ⟨_, rfl, ?_⟩
    refine isi (ty_tup t1) (b := true) (c := "tuple") (by decide +kernel) ?_
    refine ⟨true, rfl, _, rfl, t, _, rfl, .inr t1, rfl, false, rfl, ?_⟩
    exact ⟨_, rfl, _, rfl, _, rfl, _, rfl, _, rfl, p, s, t, tw, tp, rs, nxOf b rs, wt, ps, w, one, other, 0, beats, rfl, hp.same s12, po.l120, hs.same s2, hg, hw, t1, t2, t3, ok.len, ok.way, ok.sum, ok.p1, ok.p2, .inl rfl, ok.rk, fun H3 s3 => q _ (s12.trans s3)⟩
def sp_is_round (K : PySem.W.Frag) : Sp := fun vs H Q _ => ∃ (p s t tw tu : Addr) (rs : List Row) (G : Nat → List Edge) (wt : Nat → Bool) (one other : Nat) (w u : List Nat), vs = [.ref p, .ref s, .int (one : Int), .int (other : Int), .ref t] ∧ ProgAt H p rs ∧ StepsAt H s rs.length G ∧ GrOk G rs.length ∧ Waits rs wt ∧ SqT K H t [.ref tw, .ref tu] ∧ SqT K H tw (nV w) ∧ SqT K H tu (nV u) ∧ WayOk G wt rs.length one other w ∧ TurnOk G wt rs.length other w u ∧ ∀ H', Same H H' → Q (.bl true) H'
theorem sc_is_round : FnScope ["program", "steps", "one", "other", "paper", "way", "turn", "row"] ["program", "steps", "one", "other", "paper"] (defScope (topS 53)) := ⟨rfl, rfl, rfl, by decide +kernel, rfl, by decide +kernel, by decide +kernel⟩
theorem ok_is_round (T : Txt K mg) : Ok P w K mg base 4 "is_round" ["program", "steps", "one", "other", "paper"] (sp_is_round K) := by
  obtain ⟨fd, F⟩ := T.d_is_round
  obtain ⟨fd_is_way, G_is_way, kp_is_way, b_is_way⟩ := ok_is_way (P := P) (w := w) (base := base) T
  obtain ⟨fd_are_steps, G_are_steps, kp_are_steps, b_are_steps⟩ := ok_are_steps (P := P) (w := w) (base := base) T
  obtain ⟨fd_is_wait, G_is_wait, kp_is_wait, b_is_wait⟩ := ok_is_wait (P := P) (w := w) (base := base) T
  refine ⟨fd, F.ok sc_is_round (fun vs H Q E h => ?_) (fun cdv A outer s H vs Q E hr h => ?_), F.kp, F.bindsN fun _ _ _ _ _ _ us hl => match us, hl with | [_, _, _, _, _], _ => rfl⟩
  · obtain ⟨p, s, t, tw, tu, rs, G, wt, one, other, w, u, rfl, _⟩ := h
    rfl
  · obtain ⟨p, s, t, tw, tu, rs, G, wt, one, other, w, u, rfl, hp, hs, hg, hw, ht, htw, htu, ok, ou, q⟩ := h
    have hu := hu_of hr
    refine ⟨_, PSs.nox (pss_cons (ps_asg (pv 4) (pg_tup rfl (pgs_cons (pg_name (i := 5) sc_is_round.nd rfl (by first | exact Or.inl rfl | exact Or.inr rfl)) (pgs_cons (pg_name (i := 6) sc_is_round.nd rfl (by first | exact Or.inl rfl | exact Or.inr rfl)) pgs_nil))))
      (pss_cons (ps_if (PW.pt (pw_or (pt_not (pt_val (pe_call G_is_way hr (by rfl) T.g_is_way kp_is_way b_is_way .nil pass0 (pa_cons (pv 0) (pa_cons (pv 1) (pa_cons (pv 2) (pa_cons (pv 3) (pa_cons (pv 5) pa_nil)))))))) (pw_or1 (pt_not (pt_val (pe_call G_are_steps (hr.mono (by decide)) (by rfl) T.g_are_steps kp_are_steps b_are_steps .nil pass0 (pa_cons (pv 0) (pa_cons (pv 1) (pa_cons (pv 6) pa_nil)))))))))
      (pss_one (ps_ret pe_bl))
      pss_nil)
      (pss_cons (ps_if (PW.pt (pw_or (pt_cmpR op_ne (pe_ix ix_tup (pv 6) pe_int (fun _ _ => rfl)) (pe_ix ix_tup (pv 6) (pe_un un_neg pe_int) (fun _ _ => rfl)) (nomark _)) (pw_or (pt_cmpR op_notIn_seq (pe_ix ix_tup (pv 6) pe_int (fun _ _ => rfl)) (pv 5) (by rfl)) (pw_or1 (pt_cmpR op_eq (pe_ix ix_tup (pv 6) pe_int (fun _ _ => rfl)) (pv 3) (nomark _))))))
      (pss_one (ps_ret pe_bl))
      pss_nil)
      (pss_cons (ps_for PassesOwn.never rfl (pi_tup (pv 6)) (pg_name (i := 7) sc_is_round.nd rfl (by first | exact Or.inl rfl | exact Or.inr rfl))
      (pss_one (ps_if (PW.pt (pw_or (pt_val (pe_call G_is_wait (hr.mono (by decide)) (by rfl) T.g_is_wait kp_is_wait b_is_wait .nil pass0 (pa_cons (pv 0) (pa_cons (pv 7) pa_nil)))) (pw_or1 (pt_cmpR op_eq (pv 7) (pv 3) (nomark _)))))
      (pss_one (ps_ret pe_bl))
      pss_nil)))
      (pss_one (ps_ret pe_bl)))))), ?_⟩
    refine ⟨_, rfl, t, _, rfl, ht, rfl, _, _, rfl, _, _, rfl, rfl, ?_⟩
    refine ⟨_, rfl, _, rfl, _, rfl, _, rfl, _, rfl, p, s, tw, rs, G, wt, one, other, w, rfl, hp, hs, hg, hw, htw, ok, fun H1 s1 => ⟨true, rfl, ?_⟩⟩
    refine ⟨_, rfl, _, rfl, _, rfl, p, s, tu, rs, G, u, rfl, hp.same s1, hs.same s1, hg, same_t s1 htu, ou.two, ou.most, ou.lt, ou.ch, fun H2 s2 => ⟨true, rfl, ?_⟩⟩
    have s12 := s1.trans s2
    obtain ⟨x, x1, x2, x3⟩ := ou.ends
    have htu2 := same_t s12 htu
    have m1 := ou.mid x (List.mem_of_getElem? x1)
    refine ⟨_, rfl, tu, _, _, _, rfl, rfl, htu2, atI_nat (j := 0) (nV_at x1), _, rfl, 1, rfl, tu, _, _, _, rfl, rfl, htu2, at_last x2, rfl, false, by rw [decide_eq_true rfl]; rfl, ?_⟩
    refine ⟨_, rfl, tu, _, _, _, rfl, rfl, htu2, atI_nat (j := 0) (nV_at x1), _, rfl, tw, _, rfl, .inr (same_t s12 htw), rfl, by rw [nV_int]; exact flat_ints _, false, ?_, ?_⟩
    · rw [in_nV, decide_eq_true x3]
      rfl
    refine ⟨_, rfl, tu, _, _, _, rfl, rfl, htu2, atI_nat (j := 0) (nV_at x1), _, rfl, rfl, false, congrArg V.bl (decide_eq_false (fun z => m1.2 (by have := V.int.inj z; omega))), ?_⟩
    refine ⟨_, rfl, tu, rfl, ⟨_, htu2⟩, for_it (walk_tup (K := K) (a := tu) (xs := nV u)) (fun i σ H' => ∃ x7, σ = [some (.ref p), some (.ref s), some (.int (one : Int)), some (.int (other : Int)), some (.ref t), some (.ref tw), some (.ref tu), x7] ∧ H' = H2) ⟨none, rfl, rfl⟩ (fun i σ H' _ ⟨_, _, e⟩ => by rw [e]; exact htu2) ?_ ?_⟩
    · rintro i y σ H3 H' hi ⟨x7, rfl, rfl⟩ ⟨rfl, ey⟩
      obtain ⟨n, en, rfl⟩ := nV_get ey
      have hm := List.mem_of_getElem? en
      obtain ⟨n1, n2⟩ := ou.mid n hm
      obtain ⟨r, er⟩ := row_at (ou.lt n hm)
      refine ⟨_, rfl, _, rfl, p, rs, n, r, rfl, hp.same s12, er, false, by rw [← hw n r er, n1], ?_⟩
      refine ⟨_, rfl, _, rfl, rfl, false, congrArg V.bl (decide_eq_false (fun z => n2 (by have := V.int.inj z; omega))), ?_⟩
      exact ⟨_, rfl, rfl⟩
    · rintro σ H' ⟨x7, rfl, rfl⟩
      exact q _ s12
def sp_right_high (K : PySem.W.Frag) : Sp := fun vs H Q _ => ∃ (p t : Addr) (rs : List Row) (b : Int) (wt : Nat → Bool) (one other : Nat) (x : High), vs = [.ref p, .int b, .int (one : Int), .int (other : Int), .ref t] ∧ ProgAt H p rs ∧ PO rs b ∧ GrOk (nxOf b rs) rs.length ∧ Waits rs wt ∧ Ends rs one other ∧ HighAt K H t x ∧ HighOk (nxOf b rs) wt rs.length one other x ∧ ∀ H', Same H H' → Q (.bl true) H'
theorem sc_right_high : FnScope ["program", "base", "one", "other", "thing", "steps"] ["program", "base", "one", "other", "thing"] (defScope (topS 54)) := ⟨rfl, rfl, rfl, by decide +kernel, rfl, by decide +kernel, by decide +kernel⟩
theorem ok_right_high (T : Txt K mg) : Ok P w K mg base 7 "right_high" ["program", "base", "one", "other", "thing"] (sp_right_high K) := by
  obtain ⟨fd, F⟩ := T.d_right_high
  obtain ⟨fd_all_steps, G_all_steps, kp_all_steps, b_all_steps⟩ := ok_all_steps (P := P) (w := w) (base := base) T
  obtain ⟨fd_are_ends, G_are_ends, kp_are_ends, b_are_ends⟩ := ok_are_ends (P := P) (w := w) (base := base) T
  obtain ⟨fd_is_priced, G_is_priced, kp_is_priced, b_is_priced⟩ := ok_is_priced (P := P) (w := w) (base := base) T
  obtain ⟨fd_is_round, G_is_round, kp_is_round, b_is_round⟩ := ok_is_round (P := P) (w := w) (base := base) T
  obtain ⟨tMOST, hMOST⟩ := T.n_MOST
  refine ⟨fd, F.ok sc_right_high (fun vs H Q E h => ?_) (fun cdv A outer s H vs Q E hr h => ?_), F.kp, F.bindsN fun _ _ _ _ _ _ us hl => match us, hl with | [_, _, _, _, _], _ => rfl⟩
  · obtain ⟨p, t, rs, b, wt, one, other, x, rfl, _⟩ := h
    rfl
  · obtain ⟨p, t, rs, b, wt, one, other, x, rfl, hp, po, hg, hw, he, ht, ok, q⟩ := h
    have hu := hu_of hr
    refine ⟨_, PSs.nox (pss_cons (ps_set (i := 5) sc_right_high.nd rfl (by first | exact Or.inl rfl | exact Or.inr rfl) (pe_call G_all_steps hr (by rfl) T.g_all_steps kp_all_steps b_all_steps .nil pass0 (pa_cons (pv 0) (pa_cons (pv 1) pa_nil))))
      (pss_cons (ps_if (PW.pt (pw_or (pt_not (pt_val (pe_call G_are_ends (hr.mono (by decide)) (by rfl) T.g_are_ends kp_are_ends b_are_ends .nil pass0 (pa_cons (pv 0) (pa_cons (pv 2) (pa_cons (pv 3) pa_nil)))))) (pw_or (pt_not (pt_val (pe_callB call_isi (by rfl) T.z_isinstance (by decide +kernel) (pa_cons (pv 4) (pa_cons (pe_bltn (v := .ty "tuple") (by rfl) T.z_tuple (by decide +kernel) rfl) pa_nil))))) (pw_or1 (pt_cmpR op_lt (pe_callB call_len_seq (by rfl) T.z_len (by decide +kernel) (pa_cons (pv 4) pa_nil)) pe_int (nomark _))))))
      (pss_one (ps_ret pe_bl))
      pss_nil)
      (pss_cons (ps_if (pt_not (pt_val (pe_callB call_isi (by rfl) T.z_isinstance (by decide +kernel) (pa_cons (pe_ix ix_tup (pv 4) pe_int (fun _ _ => rfl)) (pa_cons (pe_bltn (v := .ty "str") (by rfl) T.z_str (by decide +kernel) rfl) pa_nil)))))
      (pss_one (ps_ret pe_bl))
      pss_nil)
      (pss_cons (ps_if (PW.pt (pw_and (pt_cmpR op_eq (pe_ix ix_tup (pv 4) pe_int (fun _ _ => rfl)) pe_str (nomark _)) (pw_and1 (pt_cmpR op_eq (pe_callB call_len_seq (by rfl) T.z_len (by decide +kernel) (pa_cons (pv 4) pa_nil)) pe_int (nomark _)))))
      (pss_one (ps_ret (pe_call G_is_priced (hr.mono (by decide)) (by rfl) T.g_is_priced kp_is_priced b_is_priced .nil pass0 (pa_cons (pv 0) (pa_cons (pv 5) (pa_cons (pv 2) (pa_cons (pv 3) (pa_cons (pe_slice sl_tupA (pv 4) (po_some pe_int) po_none) (pa_cons (pe_glob (v := .int 1) (by rfl) hMOST ⟨_, rfl⟩) pa_nil)))))))))
      pss_nil)
      (pss_one (ps_ret (pe_and (pe_cmpR op_eq (pe_ix ix_tup (pv 4) pe_int (fun _ _ => rfl)) pe_str (nomark _)) (pe_and (pe_cmpR op_eq (pe_callB call_len_seq (by rfl) T.z_len (by decide +kernel) (pa_cons (pv 4) pa_nil)) pe_int (nomark _)) (pe_one (pe_call G_is_round (hr.mono (by decide)) (by rfl) T.g_is_round kp_is_round b_is_round .nil pass0 (pa_cons (pv 0) (pa_cons (pv 5) (pa_cons (pv 2) (pa_cons (pv 3) (pa_cons (pe_slice sl_tupA (pv 4) (po_some pe_int) po_none) pa_nil))))))))))))))), ?_⟩
    obtain ⟨g, g1, g2, g3⟩ := po.g
    refine ⟨_, rfl, _, rfl, p, rs, b, g, rfl, hp, po.l120, po.fit, g2, g1, fun H1 s s1 hs => ?_⟩
    refine ⟨_, rfl, _, rfl, _, rfl, p, rs, one, other, rfl, hp.same s1, he, fun H2 s2 => ⟨true, rfl, ?_⟩⟩
    have s12 := s1.trans s2
    have ht2 := ht.same s12
    cases x with
    | most bb w ps =>
      obtain ⟨tw, tp, t1, t2, t3⟩ := ht2
      refine ⟨_, rfl, ?_⟩
      refine isi (ty_tup t1) (b := true) (c := "tuple") (by decide +kernel) ?_
      refine ⟨true, rfl, _, rfl, t, _, rfl, .inr t1, _, _, rfl, rfl, false, rfl, ?_⟩
      refine ⟨_, rfl, t, _, _, _, rfl, rfl, t1, atI_nat (j := 0) rfl, ?_⟩
      refine isi (.base (.str _)) (b := true) (c := "str") (by decide +kernel) ?_
      refine ⟨true, rfl, ?_⟩
      refine ⟨_, rfl, t, _, _, _, rfl, rfl, t1, atI_nat (j := 0) rfl, rfl, true, by decide +kernel, ?_⟩
      refine ⟨_, rfl, t, _, rfl, .inr t1, rfl, true, congrArg V.bl (decide_eq_true rfl), ?_⟩
      refine ⟨_, rfl, _, rfl, _, rfl, _, rfl, _, rfl, _, rfl, ?_⟩
      refine slB t1 fun t9 H3 s3 ht9 => ?_
      have s123 := s12.trans s3
      exact ⟨p, s, t9, tw, tp, rs, nxOf b rs, wt, ps, w, one, other, 1, bb, rfl, hp.same s123, po.l120, hs.same (s2.trans s3), hg, hw, ht9, same_t s3 t2, t3.same s3, ok.len, ok.way, ok.sum, ok.p1, ok.p2, .inr rfl, ok.rk, fun H4 s4 => q _ (s123.trans s4)⟩
    | round w u =>
      obtain ⟨tw, tu, t1, ⟨o, t2', _⟩, t3⟩ := ht2
      have t2 : SqT K H2 tw (nV w) := .inl (.inr ⟨o, t2'⟩)
      refine ⟨_, rfl, ?_⟩
      refine isi (ty_tup t1) (b := true) (c := "tuple") (by decide +kernel) ?_
      refine ⟨true, rfl, _, rfl, t, _, rfl, .inr t1, _, _, rfl, rfl, false, rfl, ?_⟩
      refine ⟨_, rfl, t, _, _, _, rfl, rfl, t1, atI_nat (j := 0) rfl, ?_⟩
      refine isi (.base (.str _)) (b := true) (c := "str") (by decide +kernel) ?_
      refine ⟨true, rfl, ?_⟩
      refine ⟨_, rfl, t, _, _, _, rfl, rfl, t1, atI_nat (j := 0) rfl, rfl, false, by decide +kernel, ?_⟩
      refine ⟨_, rfl, t, _, _, _, rfl, rfl, t1, atI_nat (j := 0) rfl, rfl, true, by decide +kernel, ?_⟩
      refine ⟨_, rfl, t, _, rfl, .inr t1, rfl, true, congrArg V.bl (decide_eq_true rfl), ?_⟩
      refine ⟨_, rfl, _, rfl, _, rfl, _, rfl, _, rfl, _, rfl, ?_⟩
      refine slB t1 fun t9 H3 s3 ht9 => ?_
      have s123 := s12.trans s3
      exact ⟨p, s, t9, tw, tu, rs, nxOf b rs, wt, one, other, w, u, rfl, hp.same s123, hs.same (s2.trans s3), hg, hw, ht9, same_t s3 t2, same_t s3 t3, ok.1, ok.2, fun H4 s4 => q _ (s123.trans s4)⟩
end
end B65

end

section
set_option Elab.async false
set_option linter.all false
set_option maxRecDepth 100000
set_option maxHeartbeats 1000000
namespace B65
open PySem PySem.Spec PyProof.Rows L2
section
variable {P : Program} {w : World} {K : PySem.W.Frag} {mg : Str → Option Value} {base : Heap}
/-! ### the seeker -/
def Up (G : Nat → List Edge) (n : Nat) : Prop := ∀ i, i < n → ((G i).map (·.1)).Pairwise (· < ·)
/-- the next rows on a way, none behind o, no waits -/
def bh (G : Nat → List Edge) (wt : Nat → Bool) (o : Int) (i : Nat) : List Nat := if (i : Int) = o then [] else ((G i).map (·.1)).filter (fun x => !wt x)
theorem bh_mem {G : Nat → List Edge} {wt : Nat → Bool} {o : Int} {i j : Nat} : j ∈ bh G wt o i ↔ (i : Int) ≠ o ∧ InE G i j ∧ wt j = false := by
  unfold bh InE
  by_cases h : (i : Int) = o
  · rw [if_pos h]
    exact ⟨fun z => (by cases z), fun z => absurd h z.1⟩
  · rw [if_neg h]
    constructor
    · intro z
      obtain ⟨z1, z2⟩ := List.mem_filter.mp z
      obtain ⟨e, e1, e2⟩ := List.mem_map.mp z1
      exact ⟨h, ⟨e, e1, e2⟩, by simpa using z2⟩
    · rintro ⟨_, ⟨e, e1, e2⟩, z2⟩
      exact List.mem_filter.mpr ⟨List.mem_map.mpr ⟨e, e1, e2⟩, by simpa using z2⟩
structure GraOk (G : Nat → List Edge) (n : Nat) : Prop extends GrOk G n where
  up : Up G n
  n120 : n ≤ 120
theorem bh_lt {G : Nat → List Edge} {wt : Nat → Bool} {o : Int} {n i j : Nat} (g : GraOk G n) (hi : i < n) (h : j ∈ bh G wt o i) : j < n := by
  obtain ⟨_, ⟨e, e1, e2⟩, _⟩ := bh_mem.mp h
  exact e2 ▸ (g.ed i hi e e1).1
theorem up_nodup {l : List Nat} (h : l.Pairwise (· < ·)) : l.Nodup := h.imp (fun z => Nat.ne_of_lt z)
theorem bh_nodup {G : Nat → List Edge} {wt : Nat → Bool} {o : Int} {n i : Nat} (g : GraOk G n) (hi : i < n) : (bh G wt o i).Nodup := by
  unfold bh
  split
  · exact List.nodup_nil
  · exact (up_nodup (g.up i hi)).filter _
theorem nd_len : ∀ {n : Nat} {l : List Nat}, l.Nodup → (∀ x ∈ l, x < n) → l.length ≤ n
  | 0, [], _, _ => Nat.le_refl _
  | 0, x :: _, _, h => absurd (h x (by simp)) (by omega)
  | n + 1, l, nd, h => by
    by_cases m : n ∈ l
    · have e := nd_len (n := n) (nd.erase n) (fun x hx => by
        have hx2 := (nd.mem_erase_iff).mp hx
        have := h x hx2.2
        have := hx2.1
        omega)
      rw [List.length_erase_of_mem m] at e
      omega
    · have e := nd_len (n := n) nd (fun x hx => by
        have := h x hx
        have : x ≠ n := fun z => m (z ▸ hx)
        omega)
      omega
/-- a list in order is the only one in order of its own -/
theorem sorted_eq : ∀ {a b : List Int}, a.Perm b → a.Pairwise (· ≤ ·) → b.Pairwise (· ≤ ·) → a = b
  | [], b, h, _, _ => (List.Perm.nil_eq h)
  | x :: a, [], h, _, _ => absurd h.length_eq (by simp)
  | x :: a, y :: b, h, ha, hb => by
    obtain ⟨a1, a2⟩ := List.pairwise_cons.mp ha
    obtain ⟨b1, b2⟩ := List.pairwise_cons.mp hb
    have e : x = y := by
      have m1 : x ∈ y :: b := h.mem_iff.mp (by simp)
      have m2 : y ∈ x :: a := h.mem_iff.mpr (by simp)
      have l1 : y ≤ x := by
        rcases List.mem_cons.mp m1 with z | z
        · omega
        · exact b1 x z
      have l2 : x ≤ y := by
        rcases List.mem_cons.mp m2 with z | z
        · omega
        · exact a1 y z
      omega
    subst e
    rw [sorted_eq ((List.perm_cons x).mp h) a2 b2]
def iN (l : List Nat) : List Int := l.map fun (x : Nat) => (x : Int)
theorem iN_perm {a b : List Nat} (h : a.Perm b) : (iN a).Perm (iN b) := h.map _
theorem nV_iN (l : List Nat) : nV l = (iN l).map V.int := nV_int l
theorem iN_up {l : List Nat} (h : l.Pairwise (· < ·)) : (iN l).Pairwise (· ≤ ·) := by
  unfold iN
  rw [List.pairwise_map]
  exact h.imp (fun z => by omega)
theorem DictAt.keys {H : Hp} {d : Addr} {es : List Edge} (x : DictAt H d es) : ∃ kvs, H d = some (.dK kvs) ∧ (kvs.map fun (kv : Key × V) => kV kv.1) = (iN (es.map (·.1))).map V.int := by
  obtain ⟨kvs, h1, h2, h3⟩ := x
  refine ⟨kvs, h1, List.ext_getElem? fun i => ?_⟩
  unfold iN
  rw [List.getElem?_map, List.getElem?_map, List.getElem?_map, List.getElem?_map]
  by_cases hi : i < es.length
  · have e := List.getElem?_eq_getElem hi
    obtain ⟨t, a, b⟩ := h3 i _ e
    rw [a, e]
    rfl
  · rw [List.getElem?_eq_none (by omega), List.getElem?_eq_none (by omega)]
    rfl
def meths : List Str := ["behind", "met_from", "way", "least", "most", "in_order", "round_of", "turning"]
/-- the seeker's lists stand at a -/
def SeekAt (K : PySem.W.Frag) (H : Hp) (a : Addr) (n : Nat) (G : Nat → List Edge) (wt : Nat → Bool) (other : Nat) : Prop := ∃ dx fs s wl, H a = some (.ins (He.ga K "Seeker") dx fs) ∧ (∀ m ∈ meths, fs.lookup m = none) ∧ fs.lookup ("other" : Str) = some (.int (other : Int)) ∧
  fs.lookup ("steps" : Str) = some (.ref s) ∧ fs.lookup ("waits" : Str) = some (.ref wl) ∧ StepsAt H s n G ∧ H wl = some (.lst ((List.range n).map fun i => V.bl (wt i))) ∧ GraOk G n ∧ other < n
theorem SeekAt.same {H H' : Hp} {a : Addr} {n : Nat} {G : Nat → List Edge} {wt : Nat → Bool} {other : Nat} (s : Same H H') (h : SeekAt K H a n G wt other) : SeekAt K H' a n G wt other := by
  obtain ⟨dx, fs, st, wl, a1, a2, a3, a4, a5, a6, a7, a8⟩ := h
  exact ⟨dx, fs, st, wl, s _ _ a1, a2, a3, a4, a5, a6.same s, s _ _ a7, a8⟩
theorem none_of {H H' : Hp} {l : Addr} (s : Same H H') (h : H' l = none) : H l = none := by
  cases q : H l with
  | none => rfl
  | some o => rw [s _ _ q] at h; cases h
def sp_Seeker_behind (K : PySem.W.Frag) : Sp := fun vs H Q _ => ∃ (a : Addr) (i n : Nat) (G : Nat → List Edge) (wt : Nat → Bool) (other : Nat), vs = [.ref a, .int (i : Int)] ∧ SeekAt K H a n G wt other ∧ i < n ∧ ∀ H' l, Same H H' → H l = none → H' l = some (.lst (nV (bh G wt (other : Int) i))) → Q (.ref l) H'
theorem sc_Seeker_behind : FnScope ["self", "row", "following"] ["self", "row"] (defScope (inClass (topS 56) 1)) := ⟨rfl, rfl, rfl, by decide +kernel, rfl, by decide +kernel, by decide +kernel⟩
theorem ok_Seeker_behind (T : Txt K mg) : OkM P w K mg base 1 "behind" ["self", "row"] (sp_Seeker_behind K) := by
  obtain ⟨fd, F⟩ := T.d_Seeker_behind
  refine ⟨fd, F.ok sc_Seeker_behind (fun vs H Q E h => ?_) (fun cdv A outer s H vs Q E hr h => ?_), F.kp, F.bindsN fun _ _ _ _ _ _ us hl => match us, hl with | [_, _], _ => rfl⟩
  · obtain ⟨a, i, n, G, wt, other, rfl, _⟩ := h
    rfl
  · obtain ⟨a, i, n, G, wt, other, rfl, hs, hi, q⟩ := h
    have hu := hu_of hr
    refine ⟨_, PSs.nox (pss_cons (ps_if (pt_cmpR op_eq (pv 1) (pe_fld (pv 0) rfl) (nomark _))
      (pss_one (ps_ret (pe_lst pa_nil)))
      pss_nil)
      (pss_one (ps_ret (pe_lc (own := [("following", 2)]) rfl sc_Seeker_behind.nd (pi_list (pe_callB cr_sortedI (by rfl) T.z_sorted (by decide +kernel) (pa_cons (pe_callTy (call_list_dK rfl) (by rfl) T.z_list (by decide +kernel) (pa_cons (pe_ix ix_list (pe_fld (pv 0) rfl) (pv 1) (fun _ _ => rfl)) pa_nil)) pa_nil))) (blkOk_by (N := ["self", "row", "following"]) (sc := defScope (inClass (topS 56) 1)) (by decide +kernel)) (fun _ _ _ _ _ => (pg_name (i := 2) sc_Seeker_behind.nd rfl (by first | exact Or.inl rfl | exact Or.inr rfl))) (fun _ _ _ _ _ => (pts_one (pt_not (pt_val (pe_ix (r := rIxL K) ix_list (R65.pe_fldK (K := K) rfl (pv 0) rfl) (pv 2) (fun _ _ => rfl)))))) (fun _ _ _ _ _ => (pv 2)))))), ?_⟩
    obtain ⟨dx, fs, s, wl, a1, a2, a3, a4, a5, a6, a7, a8, a9⟩ := hs
    refine ⟨_, rfl, _, rfl, a, _, dx, fs, _, rfl, a1, T.cl, T.a_other, a3, rfl, _, rfl, ite2 (fun e => ?_) (fun e => ?_)⟩
    · have e2 : (i : Int) = (other : Int) := V.int.inj (of_decide_eq_true e)
      refine ⟨Nat.zero_le _, fun l nl => q _ l (same_new nl) nl ?_⟩
      rw [upd_same]
      unfold bh
      rw [if_pos e2]
      rfl
    · have e2 : ¬ (i : Int) = (other : Int) := fun z => e (decide_eq_true (congrArg V.int z))
      obtain ⟨xs, d, es, h1, h2, h3, h4⟩ := a6.row hi
      obtain ⟨kvs, k1, k2⟩ := h4.keys
      refine ⟨_, rfl, a, _, dx, fs, _, rfl, a1, T.cl, T.a_steps, a4, _, rfl, s, _, _, _, rfl, rfl, sqL h1, h2, d, kvs, rfl, k1, fun l nl => ?_⟩
      have s1 := same_new (o := .lst (kvs.map fun kv => kV kv.1)) nl
      have el : upd H l (.lst (kvs.map fun kv => kV kv.1)) l = some (.lst ((iN (es.map (·.1))).map V.int)) := by rw [upd_same, k2]
      generalize upd H l (.lst (kvs.map fun kv => kV kv.1)) = H1 at *
      refine ⟨l, _, rfl, sqL el, fun ns' p hp1 hp2 np => ?_⟩
      have en : ns' = iN ((G i).map (·.1)) := sorted_eq (hp1.trans (iN_perm (h3.map (fun (e : Edge) => e.1)))) hp2 (iN_up (a8.up i hi))
      have s2 := same_new (o := .lst (ns'.map V.int)) np
      have ep : upd H1 p (.lst (ns'.map V.int)) p = some (.lst (nV ((G i).map (·.1)))) := by rw [upd_same, en, nV_iN]
      generalize upd H1 p (.lst (ns'.map V.int)) = H2 at *
      have s12 := s1.trans s2
      refine ⟨p, rfl, ⟨_, sqL ep⟩, fun D nD => ?_⟩
      refine lc_st (walk_list (K := K) (a := p) (xs := nV ((G i).map (·.1)))) (fun j acc H' => Same H2 H' ∧ acc = nV ((((G i).map (·.1)).take j).filter (fun x => !wt x))) ⟨same_new nD, rfl⟩ (fun j acc _ _ H' _ ⟨s, e⟩ => ⟨same_mut s nD, e⟩) (fun j acc H' _ ⟨s, e⟩ => sqL (s _ _ ep)) (fun j acc H' hj ⟨s, e⟩ => ?_) (fun j x acc H3 H4 hj eD ⟨s, e⟩ ⟨eH, ex⟩ Qy Qn ky kn => ?_) (fun acc H' eD ⟨s, e⟩ => ?_)
      · rw [e, nV_len]
        have l1 : ((((G i).map (·.1)).take j).filter (fun x => !wt x)).length ≤ (G i).length := Nat.le_trans (List.length_filter_le _ _) (by rw [List.length_take, List.length_map]; omega)
        have l2 : ((G i).map (·.1)).length ≤ n := nd_len (a8.nd i hi) (fun x hx => by
          obtain ⟨e9, m1, m2⟩ := List.mem_map.mp hx
          exact m2 ▸ (a8.ed i hi e9 m1).1)
        rw [List.length_map] at l2
        have := a8.n120
        exact szl (by omega)
      · subst eH
        obtain ⟨y, ey, rfl⟩ := nV_get ex
        have ym : y ∈ (G i).map (·.1) := List.mem_of_getElem? ey
        have yl : y < n := by
          obtain ⟨e9, m1, m2⟩ := List.mem_map.mp ym
          exact m2 ▸ (a8.ed i hi e9 m1).1
        have ew9 : atI ((List.range n).map fun i => V.bl (wt i)) (y : Int) = some (.bl (wt y)) := atI_nat (by rw [List.getElem?_map, List.getElem?_range yl]; rfl)
        refine ⟨rfl, _, rfl, a, _, dx, fs, _, rfl, (s12.trans s) _ _ a1, T.cl, T.a_waits, a5, _, rfl, wl, _, _, _, rfl, rfl, sqL ((s12.trans s) _ _ a7), ew9, wt y, rfl, ?_⟩
        have et : (((G i).map (·.1)).take (j + 1)) = (((G i).map (·.1)).take j) ++ [y] := by rw [List.take_add_one, ey]; rfl
        cases hw : wt y with
        | true => exact kn _ eD ⟨s, by rw [et, List.filter_append]; simp [hw, e]⟩
        | false => exact ⟨_, rfl, ky _ _ eD ⟨s, by rw [et, List.filter_append]; simp [hw, e, nV_app]; rfl⟩⟩
      · refine q _ D (s12.trans s) (none_of s12 nD) ?_
        rw [eD, e]
        unfold bh
        rw [if_neg e2, nV_len, take_all]
/-! ### dicts of ints by rows -/
def dN (f : List (Nat × Int)) : List (Key × V) := f.map fun (x : Nat × Int) => ((Sum.inl (x.1 : Int) : Key), V.int x.2)
def ks (f : List (Nat × Int)) : List Nat := f.map (·.1)
def lk : List (Nat × Int) → Nat → Option Int
  | [], _ => none
  | p :: r, x => if p.1 = x then some p.2 else lk r x
def pu : List (Nat × Int) → Nat → Int → List (Nat × Int)
  | [], x, v => [(x, v)]
  | p :: r, x, v => if p.1 = x then (x, v) :: r else p :: pu r x v
theorem lk_none {f : List (Nat × Int)} {x : Nat} : lk f x = none ↔ x ∉ ks f := by
  induction f with
  | nil => exact ⟨fun _ z => (by cases z), fun _ => rfl⟩
  | cons p r ih =>
    show (if p.1 = x then some p.2 else lk r x) = none ↔ x ∉ p.1 :: ks r
    by_cases h : p.1 = x
    · rw [if_pos h]
      exact ⟨fun z => (by cases z), fun z => absurd (List.mem_cons.mpr (.inl h.symm)) z⟩
    · rw [if_neg h, ih]
      exact ⟨fun z m => (List.mem_cons.mp m).elim (fun e => h e.symm) z, fun z m => z (List.mem_cons.mpr (.inr m))⟩
theorem lk_some {f : List (Nat × Int)} {x : Nat} (h : x ∈ ks f) : ∃ v, lk f x = some v := by
  cases q : lk f x with
  | none => exact absurd h (lk_none.mp q)
  | some v => exact ⟨v, rfl⟩
theorem lk_mem {f : List (Nat × Int)} {x : Nat} {v : Int} (h : lk f x = some v) : (x, v) ∈ f := by
  induction f with
  | nil => cases h
  | cons p r ih =>
    change (if p.1 = x then some p.2 else lk r x) = some v at h
    split at h
    · rename_i e
      cases h
      exact List.mem_cons.mpr (.inl (by rw [← e]))
    · exact List.mem_cons.mpr (.inr (ih h))
theorem lk_ks {f : List (Nat × Int)} {x : Nat} {v : Int} (h : lk f x = some v) : x ∈ ks f := List.mem_map.mpr ⟨_, lk_mem h, rfl⟩
theorem lk_of {f : List (Nat × Int)} (nd : (ks f).Nodup) {x : Nat} {v : Int} (h : (x, v) ∈ f) : lk f x = some v := by
  induction f with
  | nil => cases h
  | cons p r ih =>
    obtain ⟨n1, n2⟩ := List.nodup_cons.mp nd
    show (if p.1 = x then some p.2 else lk r x) = some v
    rcases List.mem_cons.mp h with e | e
    · rw [← e, if_pos rfl]
    · rw [if_neg (fun z => n1 (List.mem_map.mpr ⟨_, e, z.symm⟩)), ih n2 e]
theorem lk_pu (f : List (Nat × Int)) (x y : Nat) (v : Int) : lk (pu f x v) y = if y = x then some v else lk f y := by
  induction f with
  | nil =>
    show (if x = y then some v else none) = _
    by_cases h : y = x
    · rw [if_pos h, if_pos h.symm]
    · rw [if_neg h, if_neg (fun z => h z.symm)]
      rfl
  | cons p r ih =>
    show lk (if p.1 = x then (x, v) :: r else p :: pu r x v) y = if y = x then some v else (if p.1 = y then some p.2 else lk r y)
    by_cases h : p.1 = x
    · rw [if_pos h]
      show (if x = y then some v else lk r y) = _
      by_cases e : y = x
      · rw [if_pos e, if_pos e.symm]
      · rw [if_neg e, if_neg (fun z => e z.symm), if_neg (fun z => e (z.symm.trans h))]
    · rw [if_neg h]
      show (if p.1 = y then some p.2 else lk (pu r x v) y) = _
      rw [ih]
      by_cases e : y = x
      · rw [if_pos e, if_pos e, if_neg (fun z => h (z.trans e))]
      · rw [if_neg e, if_neg e]
theorem ks_pu (f : List (Nat × Int)) (x : Nat) (v : Int) : ks (pu f x v) = if x ∈ ks f then ks f else ks f ++ [x] := by
  induction f with
  | nil => rfl
  | cons p r ih =>
    show ks (if p.1 = x then (x, v) :: r else p :: pu r x v) = if x ∈ p.1 :: ks r then p.1 :: ks r else (p.1 :: ks r) ++ [x]
    by_cases h : p.1 = x
    · rw [if_pos h, if_pos (List.mem_cons.mpr (.inl h.symm)), h]
      rfl
    · rw [if_neg h]
      show p.1 :: ks (pu r x v) = _
      rw [ih]
      by_cases e : x ∈ ks r
      · rw [if_pos e, if_pos (List.mem_cons.mpr (.inr e))]
      · rw [if_neg e, if_neg (fun z => (List.mem_cons.mp z).elim (fun z => h z.symm) e)]
        rfl
theorem pu_new {f : List (Nat × Int)} {x : Nat} (h : x ∉ ks f) (v : Int) : pu f x v = f ++ [(x, v)] := by
  induction f with
  | nil => rfl
  | cons p r ih =>
    show (if p.1 = x then (x, v) :: r else p :: pu r x v) = _
    rw [if_neg (fun z => h (List.mem_cons.mpr (.inl z.symm))), ih (fun z => h (List.mem_cons.mpr (.inr z)))]
    rfl
theorem key_eq {x y : Nat} : ((Sum.inl (x : Int) : Key) = Sum.inl (y : Int)) ↔ x = y := ⟨fun z => by have := Sum.inl.inj z; omega, fun z => by rw [z]⟩
theorem dN_val (f : List (Nat × Int)) (x : Nat) : valV (dN f) (Sum.inl (x : Int)) = (lk f x).map V.int := by
  induction f with
  | nil => rfl
  | cons p r ih =>
    show valV (((Sum.inl (p.1 : Int) : Key), V.int p.2) :: dN r) (Sum.inl (x : Int)) = Option.map V.int (if p.1 = x then some p.2 else lk r x)
    by_cases h : p.1 = x
    · rw [if_pos h]
      exact valV_pos (p := ((Sum.inl (p.1 : Int) : Key), V.int p.2)) (key_eq.mpr h)
    · rw [if_neg h, ← ih]
      exact valV_neg (p := ((Sum.inl (p.1 : Int) : Key), V.int p.2)) (fun z => h (key_eq.mp z))
theorem dN_put {f : List (Nat × Int)} (nd : (ks f).Nodup) (x : Nat) (v : Int) : putK (dN f) (Sum.inl (x : Int)) (.int v) = dN (pu f x v) := by
  by_cases h : x ∈ ks f
  · unfold putK
    rw [valV_any, dN_val]
    obtain ⟨u, hu⟩ := lk_some h
    rw [hu]
    refine (if_pos rfl).trans ?_
    clear hu u
    induction f with
    | nil => cases h
    | cons p r ih =>
      obtain ⟨n1, n2⟩ := List.nodup_cons.mp nd
      show (if (Sum.inl (p.1 : Int) : Key) = Sum.inl (x : Int) then ((Sum.inl (p.1 : Int) : Key), V.int v) else ((Sum.inl (p.1 : Int) : Key), V.int p.2)) :: (dN r).map _ = dN (if p.1 = x then (x, v) :: r else p :: pu r x v)
      by_cases e : p.1 = x
      · rw [if_pos (key_eq.mpr e), if_pos e, e]
        show _ :: _ = _ :: dN r
        congr 1
        have hx : x ∉ ks r := e ▸ n1
        have : ∀ kv ∈ dN r, (if kv.1 = (Sum.inl (x : Int) : Key) then (kv.1, V.int v) else kv) = kv := by
          intro kv hkv
          obtain ⟨q, q1, q2⟩ := List.mem_map.mp hkv
          rw [if_neg]
          intro z
          rw [← q2] at z
          exact hx (List.mem_map.mpr ⟨q, q1, key_eq.mp z⟩)
        exact (List.map_congr_left this).trans (List.map_id _)
      · rw [if_neg (fun z => e (key_eq.mp z)), if_neg e]
        show _ :: _ = _ :: dN (pu r x v)
        rw [ih n2 ((List.mem_cons.mp h).resolve_left (fun z => e z.symm))]
  · rw [putK_new _ (by rw [dN_val, lk_none.mpr h]; rfl), pu_new h]
    unfold dN
    rw [List.map_append]
    rfl
theorem dN_len (f : List (Nat × Int)) : (dN f).length = f.length := List.length_map ..
theorem ks_len (f : List (Nat × Int)) : (ks f).length = f.length := List.length_map ..
theorem dgN {H : Hp} {d : Addr} {f : List (Nat × Int)} (h : H d = some (.dK (dN f))) (x : Nat) : DGet H d (.int (x : Int)) ((lk f x).map V.int) := by
  rw [← dN_val]
  exact DGet.k (k := Sum.inl (x : Int)) h
theorem dpN {H : Hp} {d : Addr} {f : List (Nat × Int)} (h : H d = some (.dK (dN f))) (nd : (ks f).Nodup) (hl : f.length < 100000) (x : Nat) (v : Int) : DPut H d (.int (x : Int)) (.int v) (upd H d (.dK (dN (pu f x v)))) := by
  rw [← dN_put nd]
  exact DPut.k (k := Sum.inl (x : Int)) h (by rw [dN_len]; exact szl hl)

end
end B65

end

section
set_option Elab.async false
set_option linter.all false
set_option maxRecDepth 100000
set_option maxHeartbeats 1000000
namespace B65
open PySem PySem.Spec PyProof.Rows L2
section
variable {P : Program} {w : World} {K : PySem.W.Frag} {mg : Str → Option Value} {base : Heap}
/-- rows met so far, the first k looked behind -/
structure MetIn (G : Nat → List Edge) (wt : Nat → Bool) (o : Int) (n s k : Nat) (f : List (Nat × Int)) : Prop where
  nd : (ks f).Nodup
  hd : f[0]? = some (s, (s : Int))
  lt : ∀ x ∈ ks f, x < n
  pr : ∀ (i x : Nat) (v : Int), f[i + 1]? = some (x, v) → ∃ j y, j ≤ i ∧ (ks f)[j]? = some y ∧ v = (y : Int) ∧ x ∈ bh G wt o y
  cl : ∀ (i x : Nat), i < k → (ks f)[i]? = some x → ∀ y ∈ bh G wt o x, y ∈ ks f
  kl : k ≤ f.length
theorem MetIn.len {G : Nat → List Edge} {wt : Nat → Bool} {o : Int} {n s k : Nat} {f : List (Nat × Int)} (h : MetIn G wt o n s k f) : f.length ≤ n := by
  have := nd_len h.nd h.lt
  rw [ks_len] at this
  exact this
theorem MetIn.add {G : Nat → List Edge} {wt : Nat → Bool} {o : Int} {n s k x y : Nat} {f : List (Nat × Int)} (h : MetIn G wt o n s k f) (hx : (ks f)[k]? = some x) (hy : y ∈ bh G wt o x) (hn : y ∉ ks f) (hl : y < n) : MetIn G wt o n s k (f ++ [(y, (x : Int))]) := by
  have ek : ks (f ++ [(y, (x : Int))]) = ks f ++ [y] := List.map_append ..
  have old : ∀ (i z : Nat), (ks f)[i]? = some z → (ks f ++ [y])[i]? = some z := fun i z e => by
    rw [List.getElem?_append_left (List.getElem?_eq_some_iff.mp e).1]
    exact e
  refine ⟨?_, ?_, ?_, ?_, ?_, ?_⟩
  · rw [ek]
    refine List.nodup_append.mpr ⟨h.nd, by simp, fun a ha b hb e => ?_⟩
    rw [List.mem_singleton.mp hb] at e
    exact hn (e ▸ ha)
  · rw [List.getElem?_append_left (List.getElem?_eq_some_iff.mp h.hd).1]
    exact h.hd
  · intro z hz
    rw [ek] at hz
    rcases List.mem_append.mp hz with e | e
    · exact h.lt z e
    · rw [List.mem_singleton.mp e]
      exact hl
  · intro i z v e
    rw [ek]
    rcases snoc_get e with e1 | ⟨e1, e2⟩
    · obtain ⟨j, w, j1, j2, j3, j4⟩ := h.pr i z v e1
      exact ⟨j, w, j1, old _ _ j2, j3, j4⟩
    · cases e2
      refine ⟨k, x, ?_, old _ _ hx, rfl, hy⟩
      have h9 : i + 1 = f.length := e1
      have : k < (ks f).length := (List.getElem?_eq_some_iff.mp hx).1
      rw [ks_len] at this
      omega
  · intro i z hi e w hw
    rw [ek] at e ⊢
    have hi2 : i < (ks f).length := by rw [ks_len]; have := h.kl; omega
    rw [List.getElem?_append_left hi2] at e
    exact List.mem_append.mpr (.inl (h.cl i z hi e w hw))
  · rw [List.length_append]
    have := h.kl
    omega
/-- all rows met -/
structure MetOk (G : Nat → List Edge) (wt : Nat → Bool) (o : Int) (n s : Nat) (f : List (Nat × Int)) : Prop extends MetIn G wt o n s f.length f
theorem MetOk.closed {G : Nat → List Edge} {wt : Nat → Bool} {o : Int} {n s : Nat} {f : List (Nat × Int)} (h : MetOk G wt o n s f) {x y : Nat} (hx : x ∈ ks f) (hy : y ∈ bh G wt o x) : y ∈ ks f := by
  obtain ⟨i, hi, e⟩ := List.mem_iff_getElem.mp hx
  exact h.cl i x (by rw [ks_len] at hi; exact hi) (by rw [List.getElem?_eq_getElem hi, e]) y hy
theorem MetIn.start {G : Nat → List Edge} {wt : Nat → Bool} {o : Int} {n s : Nat} (hs : s < n) : MetIn G wt o n s 0 [(s, (s : Int))] :=
  ⟨by simp [ks], rfl, fun x hx => by rw [List.mem_singleton.mp hx]; exact hs, fun i x v e => by simp at e, fun i x hi => by omega, Nat.zero_le _⟩
def sp_Seeker_met_from (K : PySem.W.Frag) : Sp := fun vs H Q _ => ∃ (a : Addr) (s n : Nat) (G : Nat → List Edge) (wt : Nat → Bool) (other : Nat), vs = [.ref a, .int (s : Int)] ∧ SeekAt K H a n G wt other ∧ s < n ∧ ∀ H' d f, Same H H' → H d = none → H' d = some (.dK (dN f)) → MetOk G wt (other : Int) n s f → Q (.ref d) H'
theorem sc_Seeker_met_from : FnScope ["self", "start", "found", "waiting", "at", "following"] ["self", "start"] (defScope (inClass (topS 56) 2)) := ⟨rfl, rfl, rfl, by decide +kernel, rfl, by decide +kernel, by decide +kernel⟩
theorem ok_Seeker_met_from (T : Txt K mg) : OkM P w K mg base 2 "met_from" ["self", "start"] (sp_Seeker_met_from K) := by
  obtain ⟨fd, F⟩ := T.d_Seeker_met_from
  obtain ⟨fd_Seeker_behind, G_Seeker_behind, kp_Seeker_behind, b_Seeker_behind⟩ := ok_Seeker_behind (P := P) (w := w) (base := base) T
  refine ⟨fd, F.ok sc_Seeker_met_from (fun vs H Q E h => ?_) (fun cdv A outer s H vs Q E hr h => ?_), F.kp, F.bindsN fun _ _ _ _ _ _ us hl => match us, hl with | [_, _], _ => rfl⟩
  · obtain ⟨a, s, n, G, wt, other, rfl, _⟩ := h
    rfl
  · obtain ⟨a, s, n, G, wt, other, rfl, hs, hi, q⟩ := h
    have hu := hu_of hr
    refine ⟨_, PSs.nox (pss_cons (ps_set (i := 2) sc_Seeker_met_from.nd rfl (by first | exact Or.inl rfl | exact Or.inr rfl) (pe_disp (pps_cons (pv 1) (pv 1) pps_nil) (by rfl) (by rfl) (fun z => by cases z) (by decide)))
      (pss_cons (ps_set (i := 3) sc_Seeker_met_from.nd rfl (by first | exact Or.inl rfl | exact Or.inr rfl) (pe_lst (pa_cons (pv 1) pa_nil)))
      (pss_cons (ps_set (i := 4) sc_Seeker_met_from.nd rfl (by first | exact Or.inl rfl | exact Or.inr rfl) pe_int)
      (pss_cons (ps_while PassesOwn.never (pt_cmpR op_lt (pv 4) (pe_callB call_len_seq (by rfl) T.z_len (by decide +kernel) (pa_cons (pv 3) pa_nil)) (nomark _))
      (pss_cons (ps_for PassesOwn.never rfl (pi_list (pe_meth (pv 0) T.cl T.m_behind G_Seeker_behind hr b_Seeker_behind .nil pass0 (pa_cons (pe_ix ix_list (pv 3) (pv 4) (fun _ _ => rfl)) pa_nil))) (pg_name (i := 5) sc_Seeker_met_from.nd rfl (by first | exact Or.inl rfl | exact Or.inr rfl))
      (pss_one (ps_if (pt_cmp (pc_dnotin hu (pv 5) (pv 2)))
      (pss_cons (ps_dput hu (pv 2) (pv 5) (pe_ix ix_list (pv 3) (pv 4) (fun _ _ => rfl)) rfl)
      (pss_one (ps_expr (pe_bm PySem.F.plainAttrs_list PySem.F.slot_list_append PySem.F.type_list_append mt_append (pv 3) (pa_cons (pv 5) pa_nil)))))
      pss_nil)))
      (pss_one (ps_set (i := 4) sc_Seeker_met_from.nd rfl (by first | exact Or.inl rfl | exact Or.inr rfl) (pe_op op_add (pv 4) pe_int)))))
      (pss_one (ps_ret (pv 2))))))), ?_⟩
    have g : GraOk G n := by
      obtain ⟨dx, fs, st, wl, a1, a2, a3, a4, a5, a6, a7, a8, a9⟩ := hs
      exact a8
    have hm : ∀ {H'}, Same H H' → ∃ dx fs, H' a = some (.ins (He.ga K "Seeker") dx fs) ∧ fs.lookup ("behind" : Str) = none := fun {H'} s => by
      obtain ⟨dx, fs, st, wl, a1, a2, a3⟩ := hs
      exact ⟨dx, fs, s _ _ a1, a2 _ (by decide)⟩
    refine fun d nd => ⟨_, rfl, _, rfl, upd_same, [((Sum.inl (s : Int) : Key), V.int (s : Int))], rfl, by show 1 ≤ 15; decide, ?_⟩
    have sd := same_mut (o := .dK (mergeK [] [((Sum.inl (s : Int) : Key), V.int (s : Int))])) (same_new (o := .dK []) nd) nd
    have ed : upd (upd H d (.dK [])) d (.dK (mergeK [] [((Sum.inl (s : Int) : Key), V.int (s : Int))])) d = some (.dK (dN [(s, (s : Int))])) := upd_same
    generalize upd (upd H d (.dK [])) d (.dK (mergeK [] [((Sum.inl (s : Int) : Key), V.int (s : Int))])) = H1 at *
    refine ⟨_, rfl, by show 1 ≤ sizeLine; decide, fun l nl => ?_⟩
    have nl0 := none_of sd nl
    have sl := sd.trans (same_new (o := .lst [V.int (s : Int)]) nl)
    have hld : d ≠ l := ne_of_none ed nl
    have ed2 : upd H1 l (.lst [V.int (s : Int)]) d = some (.dK (dN [(s, (s : Int))])) := by rw [upd_ne hld]; exact ed
    have el2 : upd H1 l (.lst [V.int (s : Int)]) l = some (.lst (nV (ks [(s, (s : Int))]))) := upd_same
    generalize upd H1 l (.lst [V.int (s : Int)]) = H2 at *
    refine ⟨fun m σ H' => ∃ (k : Nat) (f : List (Nat × Int)) (x5 : Option V), m = n - k ∧ σ = [some (.ref a), some (.int (s : Int)), some (.ref d), some (.ref l), some (.int (k : Int)), x5] ∧ Same H H' ∧ H' d = some (.dK (dN f)) ∧ H' l = some (.lst (nV (ks f))) ∧ MetIn G wt (other : Int) n s k f,
      ⟨n, 0, _, none, rfl, rfl, sl, ed2, el2, MetIn.start hi⟩, ?_⟩
    rintro m σ H3 ⟨k, f, x5, rfl, rfl, s3, ed3, el3, mi⟩
    refine ⟨_, rfl, _, rfl, l, _, rfl, .inl (sqL el3), _, _, rfl, rfl, _, rfl, ite2 (fun e => ?_) (fun e => ?_)⟩
    · have hk : k < f.length := by
        have := of_decide_eq_true e
        rw [nV_len, ks_len] at this
        omega
      have hkn : k < n := Nat.lt_of_lt_of_le hk mi.len
      obtain ⟨x, hx⟩ : ∃ x, (ks f)[k]? = some x := ⟨(ks f)[k]'(by rw [ks_len]; exact hk), List.getElem?_eq_getElem _⟩
      have hxn := mi.lt x (List.mem_of_getElem? hx)
      refine ⟨fun σ' H' => ∃ (f : List (Nat × Int)) (x5 : Option V), σ' = [some (.ref a), some (.int (s : Int)), some (.ref d), some (.ref l), some (.int ((k + 1 : Nat) : Int)), x5] ∧ Same H H' ∧ H' d = some (.dK (dN f)) ∧ H' l = some (.lst (nV (ks f))) ∧ MetIn G wt (other : Int) n s (k + 1) f,
        fun σ' H' ⟨f', x5', h⟩ => ⟨n - (k + 1), by omega, k + 1, f', x5', rfl, h⟩, ?_⟩
      obtain ⟨dx, fs, m1, m2⟩ := hm s3
      refine ⟨_, rfl, a, dx, fs, rfl, m1, m2, _, rfl, _, rfl, l, _, _, _, rfl, rfl, sqL el3, atI_nat (nV_at hx), a, x, n, G, wt, other, rfl, hs.same s3, hxn, fun H4 bl s4 nb eb => ?_⟩
      have hbd : bl ≠ d := fun z => by rw [z, ed3] at nb; cases nb
      have hbl : bl ≠ l := fun z => by rw [z, el3] at nb; cases nb
      refine ⟨bl, rfl, ⟨_, sqL eb⟩, for_it (walk_list (K := K) (a := bl) (xs := nV (bh G wt (other : Int) x))) (fun j σ H' => ∃ (f : List (Nat × Int)) (x5 : Option V), σ = [some (.ref a), some (.int (s : Int)), some (.ref d), some (.ref l), some (.int (k : Int)), x5] ∧ Same H H' ∧ H' d = some (.dK (dN f)) ∧ H' l = some (.lst (nV (ks f))) ∧ MetIn G wt (other : Int) n s k f ∧ (ks f)[k]? = some x ∧ (∀ y ∈ (bh G wt (other : Int) x).take j, y ∈ ks f) ∧ H' bl = some (.lst (nV (bh G wt (other : Int) x))))
        ⟨f, x5, rfl, s3.trans s4, s4 _ _ ed3, s4 _ _ el3, mi, hx, fun y hy => by simp at hy, eb⟩ (fun j σ H' _ ⟨_, _, _, _, _, _, _, _, _, e⟩ => sqL e) ?_ ?_⟩
      · rintro j yv σ H5 H' hj ⟨f, x5, rfl, s5, ed5, el5, mi, hx, hall, eb5⟩ ⟨rfl, eyv⟩
        obtain ⟨y, ey, rfl⟩ := nV_get eyv
        have hy := List.mem_of_getElem? ey
        have hyn := bh_lt g hxn hy
        have et : (bh G wt (other : Int) x).take (j + 1) = (bh G wt (other : Int) x).take j ++ [y] := by rw [List.take_add_one, ey]; rfl
        refine ⟨_, rfl, _, rfl, d, _, rfl, dgN ed5 y, ?_⟩
        cases q5 : lk f y with
        | some v =>
          refine ⟨false, rfl, f, _, rfl, s5, ed5, el5, mi, hx, fun z hz => ?_, eb5⟩
          rw [et] at hz
          rcases List.mem_append.mp hz with e9 | e9
          · exact hall z e9
          · rw [List.mem_singleton.mp e9]
            exact lk_ks q5
        | none =>
          have ny := lk_none.mp q5
          have mi2 := mi.add hx hy ny hyn
          have l120 := g.n120
          have lf := mi.len
          refine ⟨true, rfl, _, rfl, _, rfl, l, _, _, _, rfl, rfl, sqL el5, atI_nat (nV_at hx), _, rfl, _, rfl, d, _, rfl, dpN ed5 mi.nd (by omega) y (x : Int), ?_⟩
          rw [pu_new ny]
          have s6 := same_mut (o := .dK (dN (f ++ [(y, (x : Int))]))) s5 nd
          have ed6 : upd H' d (.dK (dN (f ++ [(y, (x : Int))]))) d = some (.dK (dN (f ++ [(y, (x : Int))]))) := upd_same
          have el6 : upd H' d (.dK (dN (f ++ [(y, (x : Int))]))) l = some (.lst (nV (ks f))) := upd_at el5 hld.symm
          have eb6 : upd H' d (.dK (dN (f ++ [(y, (x : Int))]))) bl = some (.lst (nV (bh G wt (other : Int) x))) := upd_at eb5 hbd
          generalize upd H' d (.dK (dN (f ++ [(y, (x : Int))]))) = H6 at *
          refine ⟨_, rfl, .inl ⟨rfl, _, sqL el6⟩, _, rfl, l, _, _, rfl, rfl, el6, by rw [nV_len, ks_len]; exact szl (by omega), ?_⟩
          have ek : ks (f ++ [(y, (x : Int))]) = ks f ++ [y] := List.map_append ..
          refine ⟨f ++ [(y, (x : Int))], _, rfl, same_mut s6 nl0, upd_at ed6 hld, by rw [upd_same, ek, nV_app]; rfl, mi2, ?_, fun z hz => ?_, upd_at eb6 hbl⟩
          · rw [ek, List.getElem?_append_left (List.getElem?_eq_some_iff.mp hx).1]
            exact hx
          · rw [et] at hz
            rw [ek]
            rcases List.mem_append.mp hz with e9 | e9
            · exact List.mem_append.mpr (.inl (hall z e9))
            · exact List.mem_append.mpr (.inr e9)
      · rintro σ H' ⟨f, x5, rfl, s5, ed5, el5, mi, hx, hall, eb5⟩
        rw [nV_len, take_all] at hall
        refine ⟨_, rfl, _, _, rfl, rfl, f, x5, rfl, s5, ed5, el5, mi.nd, mi.hd, mi.lt, mi.pr, fun i z hi e8 y hy => ?_, ?_⟩
        · by_cases e9 : i = k
          · subst e9
            rw [hx] at e8
            cases e8
            exact hall y hy
          · exact mi.cl i z (by omega) e8 y hy
        · have := (List.getElem?_eq_some_iff.mp hx).1
          rw [ks_len] at this
          omega
    · have hk : k = f.length := by
        have h1 := mi.kl
        by_cases z : k < f.length
        · exact absurd (decide_eq_true (show (k : Int) < ((nV (ks f)).length : Int) by rw [nV_len, ks_len]; omega)) e
        · omega
      subst hk
      exact ⟨_, rfl, q _ d f s3 nd ed3 ⟨mi⟩⟩
/-- come to from s -/
inductive Rc (G : Nat → List Edge) (wt : Nat → Bool) (o : Int) (s : Nat) : Nat → Prop where
  | refl : Rc G wt o s s
  | step {x y : Nat} : Rc G wt o s x → y ∈ bh G wt o x → Rc G wt o s y
theorem Rc.trans {G : Nat → List Edge} {wt : Nat → Bool} {o : Int} {s x y : Nat} (a : Rc G wt o s x) (b : Rc G wt o x y) : Rc G wt o s y := by
  induction b with
  | refl => exact a
  | step _ h ih => exact .step ih h
theorem MetOk.rc {G : Nat → List Edge} {wt : Nat → Bool} {o : Int} {n s : Nat} {f : List (Nat × Int)} (h : MetOk G wt o n s f) (x : Nat) : x ∈ ks f ↔ Rc G wt o s x := by
  constructor
  · intro hx
    obtain ⟨i, hi, e⟩ := List.mem_iff_getElem.mp hx
    have e2 : (ks f)[i]? = some x := by rw [List.getElem?_eq_getElem hi, e]
    clear hx e
    induction i using Nat.strongRecOn generalizing x with
    | _ i ih =>
      match i, hi, e2, ih with
      | 0, hi, e2, ih =>
        unfold ks at e2
        rw [List.getElem?_map, h.hd] at e2
        cases e2
        exact .refl
      | i + 1, hi, e2, ih =>
        unfold ks at e2
        rw [List.getElem?_map] at e2
        cases q : f[i + 1]? with
        | none => rw [q] at e2; cases e2
        | some p =>
          rw [q] at e2
          cases e2
          obtain ⟨j, y, j1, j2, _, j4⟩ := h.pr i p.1 p.2 q
          exact .step (ih j (by omega) y (List.getElem?_eq_some_iff.mp j2).1 j2) j4
  · intro hx
    induction hx with
    | refl => exact List.mem_map.mpr ⟨_, List.mem_of_getElem? h.hd, rfl⟩
    | step _ hy ih => exact h.closed ih hy
structure Wk (G : Nat → List Edge) (wt : Nat → Bool) (o : Int) (n s e : Nat) (w : List Nat) : Prop where
  first : w[0]? = some s
  last : w.getLast? = some e
  ch : Chn (fun x y => y ∈ bh G wt o x) w
  lt : ∀ x ∈ w, x < n
  len : w.length ≤ n
/-- walked back -/
structure Bk (R : Nat → Nat → Prop) (e x : Nat) (c : List Nat) : Prop where
  first : c[0]? = some e
  last : c.getLast? = some x
  ch : ∀ (j p q : Nat), c[j]? = some p → c[j + 1]? = some q → R q p
theorem Bk.start {R : Nat → Nat → Prop} (e : Nat) : Bk R e e [e] := ⟨rfl, rfl, fun j p q _ h => by simp at h⟩
theorem Bk.add {R : Nat → Nat → Prop} {e x y : Nat} {c : List Nat} (h : Bk R e x c) (r : R y x) : Bk R e y (c ++ [y]) := by
  refine ⟨?_, by simp, fun j p q h1 h2 => ?_⟩
  · rw [List.getElem?_append_left (List.getElem?_eq_some_iff.mp h.first).1]
    exact h.first
  · rcases snoc_get h2 with e2 | ⟨e2, e3⟩
    · have := (List.getElem?_eq_some_iff.mp e2).1
      rw [List.getElem?_append_left (by omega)] at h1
      exact h.ch j p q h1 e2
    · rw [List.getElem?_append_left (by omega)] at h1
      have h3 := h.last
      rw [List.getLast?_eq_getElem?] at h3
      rw [show c.length - 1 = j by omega, h1] at h3
      cases h3
      rw [e3]
      exact r
theorem Bk.rev {R : Nat → Nat → Prop} {e x : Nat} {c : List Nat} (h : Bk R e x c) : c.reverse[0]? = some x ∧ c.reverse.getLast? = some e ∧ Chn R c.reverse := by
  refine ⟨?_, ?_, fun i p q h1 h2 => ?_⟩
  · rw [← List.head?_eq_getElem?, List.head?_reverse]
    exact h.last
  · rw [List.getLast?_reverse, List.head?_eq_getElem?]
    exact h.first
  · have hl := (List.getElem?_eq_some_iff.mp h2).1
    rw [List.length_reverse] at hl
    rw [List.getElem?_reverse (by omega)] at h1 h2
    exact h.ch (c.length - 1 - (i + 1)) q p h2 (by rw [show c.length - 1 - (i + 1) + 1 = c.length - 1 - i by omega]; exact h1)
theorem nV_rev (c : List Nat) : (nV c).reverse = nV c.reverse := List.map_reverse.symm
theorem dgS {H : Hp} {d : Addr} {f : List (Nat × Int)} (h : H d = some (.dK (dN f))) {x : Nat} {v : Int} (e : lk f x = some v) : DGet H d (.int (x : Int)) (some (.int v)) := by
  have q := dgN h x
  rw [e] at q
  exact q
theorem ne_bl {x s : Nat} : (!decide (V.int (x : Int) = V.int (s : Int))) = !decide (x = s) := by
  rw [bl_int]
  congr 1
  by_cases h : x = s
  · rw [h]; simp
  · rw [decide_eq_false h, decide_eq_false (by omega)]
def sp_Seeker_way (K : PySem.W.Frag) : Sp := fun vs H Q _ => ∃ (a : Addr) (s e n : Nat) (G : Nat → List Edge) (wt : Nat → Bool) (other : Nat), vs = [.ref a, .int (s : Int), .int (e : Int)] ∧ SeekAt K H a n G wt other ∧ s < n ∧ Rc G wt (other : Int) s e ∧ ∀ H' l w, Same H H' → H l = none → H' l = some (.lst (nV w)) → Wk G wt (other : Int) n s e w → Q (.ref l) H'
theorem sc_Seeker_way : FnScope ["self", "start", "end", "ahead", "found"] ["self", "start", "end"] (defScope (inClass (topS 56) 3)) := ⟨rfl, rfl, rfl, by decide +kernel, rfl, by decide +kernel, by decide +kernel⟩
theorem ok_Seeker_way (T : Txt K mg) : OkM P w K mg base 3 "way" ["self", "start", "end"] (sp_Seeker_way K) := by
  obtain ⟨fd, F⟩ := T.d_Seeker_way
  obtain ⟨fd_Seeker_met_from, G_Seeker_met_from, kp_Seeker_met_from, b_Seeker_met_from⟩ := ok_Seeker_met_from (P := P) (w := w) (base := base) T
  refine ⟨fd, F.ok sc_Seeker_way (fun vs H Q E h => ?_) (fun cdv A outer s H vs Q E hr h => ?_), F.kp, F.bindsN fun _ _ _ _ _ _ us hl => match us, hl with | [_, _, _], _ => rfl⟩
  · obtain ⟨a, s, e, n, G, wt, other, rfl, _⟩ := h
    rfl
  · obtain ⟨a, s, e, n, G, wt, other, rfl, hs, hi, hrc, q⟩ := h
    have hu := hu_of hr
    refine ⟨_, PSs.nox (pss_cons (ps_set (i := 3) sc_Seeker_way.nd rfl (by first | exact Or.inl rfl | exact Or.inr rfl) (pe_meth (pv 0) T.cl T.m_met_from G_Seeker_met_from hr b_Seeker_met_from .nil pass0 (pa_cons (pv 1) pa_nil)))
      (pss_cons (ps_set (i := 4) sc_Seeker_way.nd rfl (by first | exact Or.inl rfl | exact Or.inr rfl) (pe_lst (pa_cons (pv 2) pa_nil)))
      (pss_cons (ps_while PassesOwn.never (pt_cmpR op_ne (pe_ix ix_list (pv 4) (pe_un un_neg pe_int) (fun _ _ => rfl)) (pv 1) (nomark _))
      (pss_one (ps_expr (pe_bm PySem.F.plainAttrs_list PySem.F.slot_list_append PySem.F.type_list_append mt_append (pv 4) (pa_cons (pe_dget hu (pv 3) (pe_ix ix_list (pv 4) (pe_un un_neg pe_int) (fun _ _ => rfl)) (fun _ _ => rfl)) pa_nil)))))
      (pss_one (ps_ret (R65.pe_lstRev rfl (by rfl) T.z_list (by rfl) T.z_reversed (pv 4))))))), ?_⟩
    have g : GraOk G n := by
      obtain ⟨dx, fs, st, wl, a1, a2, a3, a4, a5, a6, a7, a8, a9⟩ := hs
      exact a8
    have n120 := g.n120
    obtain ⟨dx, fs, m1, m2⟩ : ∃ dx fs, H a = some (.ins (He.ga K "Seeker") dx fs) ∧ fs.lookup ("met_from" : Str) = none := by
      obtain ⟨dx, fs, st, wl, a1, a2, a3⟩ := hs
      exact ⟨dx, fs, a1, a2 _ (by decide)⟩
    refine ⟨_, rfl, a, dx, fs, rfl, m1, m2, _, rfl, a, s, n, G, wt, other, rfl, hs, hi, fun H1 d f s1 nd ed mo => ?_⟩
    refine ⟨_, rfl, by show 1 ≤ sizeLine; decide, fun l nl => ?_⟩
    have nl0 := none_of s1 nl
    have s2 := s1.trans (same_new (o := .lst [V.int (e : Int)]) nl)
    have hld : d ≠ l := ne_of_none ed nl
    have ed2 : upd H1 l (.lst [V.int (e : Int)]) d = some (.dK (dN f)) := by rw [upd_ne hld]; exact ed
    have el2 : upd H1 l (.lst [V.int (e : Int)]) l = some (.lst (nV [e])) := upd_same
    generalize upd H1 l (.lst [V.int (e : Int)]) = H2 at *
    obtain ⟨i0, hi0, ei0⟩ := List.mem_iff_getElem.mp ((mo.rc e).mpr hrc)
    have ei1 : (ks f)[i0]? = some e := by rw [List.getElem?_eq_getElem hi0, ei0]
    have lf := mo.len
    rw [ks_len] at hi0
    obtain ⟨W, hW⟩ : ∃ W : Nat → L2.St → Hp → Prop, W = fun m σ H' => ∃ (c : List Nat) (x : Nat), σ = [some (.ref a), some (.int (s : Int)), some (.int (e : Int)), some (.ref d), some (.ref l)] ∧ Same H H' ∧ H' d = some (.dK (dN f)) ∧ H' l = some (.lst (nV c)) ∧ Bk (fun x y => y ∈ bh G wt (other : Int) x) e x c ∧ (ks f)[m]? = some x ∧ c.length + m ≤ n ∧ ∀ z ∈ c, z < n := ⟨_, rfl⟩
    refine ⟨W, ⟨i0, by rw [hW]; exact ⟨[e], e, rfl, s2, ed2, el2, Bk.start e, ei1, by show 1 + i0 ≤ n; omega, fun z hz => by rw [List.mem_singleton.mp hz]; exact mo.lt e (List.mem_of_getElem? ei1)⟩⟩, fun m σ H3 hw => ?_⟩
    have hw2 := hw
    rw [hW] at hw2
    obtain ⟨c, x, rfl, s3, ed3, el3, bk, hx, hlen, hlt⟩ := hw2
    refine ⟨_, rfl, 1, rfl, l, _, _, _, rfl, rfl, sqL el3, at_last bk.last, _, rfl, rfl, _, rfl, ?_⟩
    rw [ne_bl]
    refine ite2 (fun e9 => ?_) (fun e9 => ?_)
    · have hxs : x ≠ s := by simpa using e9
      refine ⟨fun σ' H' => ∃ m', m' < m ∧ W m' σ' H', fun σ' H' h => h, ?_⟩
      obtain ⟨j, y, v, q1, q2, q3, q4, q5⟩ : ∃ (j y : Nat) (v : Int), j < m ∧ (ks f)[j]? = some y ∧ v = (y : Int) ∧ x ∈ bh G wt (other : Int) y ∧ lk f x = some v := by
        match m, hx with
        | 0, hx =>
          unfold ks at hx
          rw [List.getElem?_map, mo.hd] at hx
          cases hx
          exact absurd rfl hxs
        | m + 1, hx =>
          have hx0 := hx
          unfold ks at hx
          rw [List.getElem?_map] at hx
          cases q : f[m + 1]? with
          | none => rw [q] at hx; cases hx
          | some p =>
            rw [q] at hx
            cases hx
            obtain ⟨j, y, j1, j2, j3, j4⟩ := mo.pr m p.1 p.2 q
            exact ⟨j, y, p.2, by omega, j2, j3, j4, lk_of mo.nd (List.mem_of_getElem? q)⟩
      subst q3
      refine ⟨_, rfl, .inl ⟨rfl, _, sqL el3⟩, _, rfl, _, rfl, 1, rfl, l, _, _, _, rfl, rfl, sqL el3, at_last bk.last, d, _, rfl, dgS ed3 q5, l, _, _, rfl, rfl, el3, by rw [nV_len]; exact szl (by omega), ?_⟩
      refine ⟨j, q1, ?_⟩
      rw [hW]
      refine ⟨c ++ [y], y, rfl, same_mut s3 nl0, upd_at ed3 hld, by rw [upd_same, nV_app]; rfl, bk.add q4, q2, by rw [List.length_append]; show c.length + 1 + j ≤ n; omega, fun z hz => ?_⟩
      rcases List.mem_append.mp hz with z1 | z1
      · exact hlt z z1
      · rw [List.mem_singleton.mp z1]
        exact mo.lt y (List.mem_of_getElem? q2)
    · have hxs : x = s := by simpa using e9
      subst hxs
      obtain ⟨r1, r2, r3⟩ := bk.rev
      refine ⟨_, rfl, l, _, rfl, sqL el3, fun p np => q _ p c.reverse (s3.trans (same_new np)) (none_of s3 np) ?_ ⟨r1, r2, r3, fun z hz => hlt z (List.mem_reverse.mp hz), by rw [List.length_reverse]; omega⟩⟩
      rw [upd_same, nV_rev]
end
end B65

end

section
set_option Elab.async false
set_option linter.all false
set_option maxRecDepth 100000
set_option maxHeartbeats 1000000
namespace B65
open PySem PySem.Spec PyProof.Rows L2
section
variable {P : Program} {w : World} {K : PySem.W.Frag} {mg : Str → Option Value} {base : Heap}
/-- the first place of a row in a list -/
def ixN (m : Nat) : List Nat → Nat
  | [] => 0
  | x :: r => if x = m then 0 else ixN m r + 1
theorem ixN_get {m : Nat} : ∀ {l : List Nat}, m ∈ l → l[ixN m l]? = some m
  | [], h => by cases h
  | x :: r, h => by
    unfold ixN
    by_cases e : x = m
    · rw [if_pos e, e]; rfl
    · rw [if_neg e]
      have h2 : m ∈ r := (List.mem_cons.mp h).resolve_left (fun z => e z.symm)
      simpa using ixN_get h2
theorem ixN_lt {m : Nat} {l : List Nat} (h : m ∈ l) : ixN m l < l.length := (List.getElem?_eq_some_iff.mp (ixN_get h)).1
theorem ixN_no {m : Nat} : ∀ {l : List Nat} {i : Nat}, i < ixN m l → l[i]? ≠ some m
  | [], i, h => by simp [ixN] at h
  | x :: r, i, h => by
    unfold ixN at h
    by_cases e : x = m
    · rw [if_pos e] at h; exact absurd h (Nat.not_lt_zero _)
    · cases i with
      | zero => intro z; exact e (Option.some.inj z)
      | succ i => intro z; exact ixN_no (m := m) (l := r) (i := i) (Nat.lt_of_succ_lt_succ (by rw [if_neg e] at h; exact h)) (by simpa using z)
theorem ixn_facts {m : Nat} {l : List Nat} (h : m ∈ l) : (nV l)[ixN m l]? = some (.int (m : Int)) ∧ eqV (.int (m : Int)) (.int (m : Int)) = true ∧ ∀ (i : Nat) (z : V), i < ixN m l → (nV l)[i]? = some z → eqV z (.int (m : Int)) = false := by
  refine ⟨nV_at (ixN_get h), by simp [eqV], fun i z hi hz => ?_⟩
  obtain ⟨s, e1, rfl⟩ := nV_get hz
  have n : ¬ (s : Int) = (m : Int) := fun e => ixN_no hi (by rw [e1, show s = m by omega])
  simp [eqV]
  omega
/-! ### chains -/
theorem Chn.add {R : Nat → Nat → Prop} {c : List Nat} {z x : Nat} (h : Chn R c) (hl : c.getLast? = some z) (r : R z x) : Chn R (c ++ [x]) := by
  intro i p q h1 h2
  rcases snoc_get h2 with e | ⟨e2, e3⟩
  · have := (List.getElem?_eq_some_iff.mp e).1
    rw [List.getElem?_append_left (by omega)] at h1
    exact h i p q h1 e
  · rw [List.getElem?_append_left (by omega)] at h1
    rw [List.getLast?_eq_getElem?, show c.length - 1 = i by omega, h1] at hl
    cases hl
    rw [e3]
    exact r
theorem Chn.take {R : Nat → Nat → Prop} {c : List Nat} (h : Chn R c) (k : Nat) : Chn R (c.take k) := by
  intro i p q h1 h2
  rw [List.getElem?_take] at h1 h2
  split at h2
  · rw [if_pos (by omega)] at h1
    exact h i p q h1 h2
  · cases h2
theorem Chn.one {R : Nat → Nat → Prop} (x : Nat) : Chn R [x] := fun i p q _ h => by simp at h
theorem Chn.mono {R S : Nat → Nat → Prop} {c : List Nat} (h : Chn R c) (f : ∀ x y, R x y → S x y) : Chn S c := fun i p q a b => f _ _ (h i p q a b)
theorem Rc.chn {G : Nat → List Edge} {wt : Nat → Bool} {o : Int} {c : List Nat} (h : Chn (fun x y => y ∈ bh G wt o x) c) {p q x z : Nat} (hp : c[p]? = some x) (hq : c[q]? = some z) (le : p ≤ q) : Rc G wt o x z := by
  induction q generalizing z with
  | zero =>
    have : p = 0 := by omega
    subst this
    rw [hp] at hq
    cases hq
    exact .refl
  | succ q ih =>
    by_cases e : p = q + 1
    · subst e
      rw [hp] at hq
      cases hq
      exact .refl
    · have hl := (List.getElem?_eq_some_iff.mp hq).1
      have hy : c[q]? = some (c[q]'(by omega)) := List.getElem?_eq_getElem _
      exact .step (ih hy (by omega)) (h q _ _ hy hq)
theorem Rc.first {G : Nat → List Edge} {wt : Nat → Bool} {o : Int} {x z : Nat} (h : Rc G wt o x z) : x = z ∨ ∃ y ∈ bh G wt o x, Rc G wt o y z := by
  induction h with
  | refl => exact .inl rfl
  | step h1 h2 ih =>
    rcases ih with e | ⟨y, y1, y2⟩
    · subst e
      exact .inr ⟨_, h2, .refl⟩
    · exact .inr ⟨y, y1, .step y2 h2⟩
/-- a row on a round -/
def OnR (G : Nat → List Edge) (wt : Nat → Bool) (o : Int) (x : Nat) : Prop := ∃ y ∈ bh G wt o x, Rc G wt o y x
theorem OnR.of {G : Nat → List Edge} {wt : Nat → Bool} {o : Int} {x z : Nat} (h : Rc G wt o x z) (e : x ∈ bh G wt o z) : OnR G wt o x := by
  rcases h.first with z1 | ⟨y, y1, y2⟩
  · subst z1
    exact ⟨_, e, .refl⟩
  · exact ⟨y, y1, .step y2 e⟩
structure ShOk (G : Nat → List Edge) (wt : Nat → Bool) (o : Int) (w c : List Nat) (t : Option Nat) : Prop where
  nd : c.Nodup
  sub : ∀ x ∈ c, x ∈ w
  ch : Chn (fun x y => y ∈ bh G wt o x) c
  first : c[0]? = w[0]?
  last : c.getLast? = w.getLast?
  tn : t = none → c = w
  ts : ∀ x, t = some x → x ∈ c ∧ OnR G wt o x
  len : c.length ≤ w.length
theorem ShOk.start {G : Nat → List Edge} {wt : Nat → Bool} {o : Int} : ShOk G wt o [] [] none := ⟨List.nodup_nil, fun _ h => h, fun i p q h => by simp at h, rfl, rfl, fun _ => rfl, fun x h => (by cases h), Nat.le_refl _⟩
theorem ShOk.new {G : Nat → List Edge} {wt : Nat → Bool} {o : Int} {w c : List Nat} {t : Option Nat} {x : Nat} (h : ShOk G wt o w c t) (hw : ∀ z, w.getLast? = some z → x ∈ bh G wt o z) (hx : x ∉ c) : ShOk G wt o (w ++ [x]) (c ++ [x]) t := by
  refine ⟨?_, ?_, ?_, ?_, ?_, ?_, ?_, by rw [List.length_append, List.length_append]; exact Nat.add_le_add_right h.len _⟩
  · refine List.nodup_append.mpr ⟨h.nd, by simp, fun a ha b hb e => ?_⟩
    rw [List.mem_singleton.mp hb] at e
    exact hx (e ▸ ha)
  · intro z hz
    rcases List.mem_append.mp hz with e | e
    · exact List.mem_append.mpr (.inl (h.sub z e))
    · exact List.mem_append.mpr (.inr e)
  · cases q : c.getLast? with
    | none =>
      have e : c = [] := List.getLast?_eq_none_iff.mp q
      rw [e]
      exact Chn.one x
    | some z => exact h.ch.add q (hw z (by rw [← h.last, q]))
  · cases c with
    | nil =>
      have e : w = [] := by
        have := h.last
        exact List.getLast?_eq_none_iff.mp this.symm
      rw [e]
    | cons a c =>
      cases w with
      | nil => have := h.first; cases this
      | cons b w => exact h.first
  · simp
  · intro e
    rw [h.tn e]
  · intro z e
    obtain ⟨a, b⟩ := h.ts z e
    exact ⟨List.mem_append.mpr (.inl a), b⟩
theorem ShOk.cut {G : Nat → List Edge} {wt : Nat → Bool} {o : Int} {w c : List Nat} {t : Option Nat} {x : Nat} (h : ShOk G wt o w c t) (hw : ∀ z, w.getLast? = some z → x ∈ bh G wt o z) (hx : x ∈ c) : ShOk G wt o (w ++ [x]) (c.take (ixN x c) ++ [x]) (some x) := by
  have e : c.take (ixN x c) ++ [x] = c.take (ixN x c + 1) := by rw [List.take_add_one, ixN_get hx]; rfl
  have hlt := ixN_lt hx
  have c0 : c[0]? = some (c[0]'(by omega)) := List.getElem?_eq_getElem _
  have w0 := h.first
  rw [c0] at w0
  refine ⟨?_, ?_, ?_, ?_, by simp, fun z => (by cases z), ?_, by rw [e, List.length_take, List.length_append]; have := h.len; omega⟩
  · rw [e]
    exact h.nd.sublist (List.take_sublist _ _)
  · intro z hz
    rw [e] at hz
    exact List.mem_append.mpr (.inl (h.sub z (List.mem_of_mem_take hz)))
  · rw [e]
    exact h.ch.take _
  · rw [e, List.getElem?_take, if_pos (by omega), List.getElem?_append_left (List.getElem?_eq_some_iff.mp w0.symm).1, h.first]
  · intro z ez
    cases ez
    refine ⟨by simp, ?_⟩
    have cl : c.getLast? = some (c[c.length - 1]'(by omega)) := by rw [List.getLast?_eq_getElem?]; exact List.getElem?_eq_getElem _
    have q := hw _ (by rw [← h.last, cl])
    exact OnR.of (Rc.chn h.ch (ixN_get hx) (show c[c.length - 1]? = some _ from List.getElem?_eq_getElem _) (by omega)) q
def oN : Option Nat → V
  | none => .non
  | some x => .int (x : Int)
def sp_shortened : Sp := fun vs H Q _ => ∃ (p : Addr) (w : List Nat) (G : Nat → List Edge) (wt : Nat → Bool) (o : Int), vs = [.ref p] ∧ H p = some (.lst (nV w)) ∧ w.length ≤ 1000 ∧ Chn (fun x y => y ∈ bh G wt o x) w ∧ ∀ H' t l c (tn : Option Nat), Same H H' → H l = none → H' t = some (.tup [.ref l, oN tn]) → H' l = some (.lst (nV c)) → ShOk G wt o w c tn → Q (.ref t) H'
theorem sc_shortened : FnScope ["way", "found", "turn", "row"] ["way"] (defScope (topS 57)) := ⟨rfl, rfl, rfl, by decide +kernel, rfl, by decide +kernel, by decide +kernel⟩
theorem ok_shortened (T : Txt K mg) : Ok P w K mg base 1 "shortened" ["way"] (sp_shortened) := by
  obtain ⟨fd, F⟩ := T.d_shortened
  refine ⟨fd, F.ok sc_shortened (fun vs H Q E h => ?_) (fun cdv A outer s H vs Q E hr h => ?_), F.kp, F.bindsN fun _ _ _ _ _ _ us hl => match us, hl with | [_], _ => rfl⟩
  · obtain ⟨p, w, G, wt, o, rfl, _⟩ := h
    rfl
  · obtain ⟨p, w, G, wt, o, rfl, hp, hl, hch, q⟩ := h
    have hu := hu_of hr
    refine ⟨_, PSs.nox (pss_cons (ps_set (i := 1) sc_shortened.nd rfl (by first | exact Or.inl rfl | exact Or.inr rfl) (pe_lst pa_nil))
      (pss_cons (ps_set (i := 2) sc_shortened.nd rfl (by first | exact Or.inl rfl | exact Or.inr rfl) pe_non)
      (pss_cons (ps_for PassesOwn.never rfl (pi_list (pv 0)) (pg_name (i := 3) sc_shortened.nd rfl (by first | exact Or.inl rfl | exact Or.inr rfl))
      (Evl.pss_cut (ps_if (pt_cmpR op_in_seq (pv 3) (pv 1) (by rfl))
      (pss_cons (ps_set (i := 1) sc_shortened.nd rfl (by first | exact Or.inl rfl | exact Or.inr rfl) (pe_slice sl_list (pv 1) po_none (po_some (pe_bm PySem.F.plainAttrs_list PySem.F.slot_list_index PySem.F.type_list_index mt_index (pv 1) (pa_cons (pv 3) pa_nil)))))
      (pss_one (ps_set (i := 2) sc_shortened.nd rfl (by first | exact Or.inl rfl | exact Or.inr rfl) (pv 3))))
      pss_nil)
      (pss_one (ps_expr (pe_bm PySem.F.plainAttrs_list PySem.F.slot_list_append PySem.F.type_list_append mt_append (pv 1) (pa_cons (pv 3) pa_nil))))))
      (pss_one (ps_ret (pe_tup (pa_cons (pv 1) (pa_cons (pv 2) pa_nil)))))))), ?_⟩
    refine ⟨Nat.zero_le _, fun l nl => ?_⟩
    have s1 := same_new (o := .lst []) nl
    have el : upd H l (.lst []) l = some (.lst (nV [])) := upd_same
    generalize upd H l (.lst []) = H1 at *
    refine ⟨_, rfl, p, rfl, ⟨_, sqL (s1 _ _ hp)⟩, for_it (walk_list (K := K) (a := p) (xs := nV w)) (fun i σ H' => ∃ (l : Addr) (c : List Nat) (tn : Option Nat) (x3 : Option V), σ = [some (.ref p), some (.ref l), some (oN tn), x3] ∧ Same H H' ∧ H l = none ∧ H' l = some (.lst (nV c)) ∧ ShOk G wt o (w.take i) c tn)
      ⟨l, [], none, none, rfl, s1, nl, el, ShOk.start⟩ (fun i σ H' _ ⟨_, _, _, _, _, s, _⟩ => sqL (s _ _ hp)) ?_ ?_⟩
    · rintro i xv σ H2 H' hi ⟨l, c, tn, x3, rfl, s2, nl, el, sh⟩ ⟨rfl, exv⟩
      obtain ⟨x, ex, rfl⟩ := nV_get exv
      have et : w.take (i + 1) = w.take i ++ [x] := by rw [List.take_add_one, ex]; rfl
      have hw : ∀ z, (w.take i).getLast? = some z → x ∈ bh G wt o z := by
        intro z hz
        rw [List.getLast?_eq_getElem?, List.getElem?_take, List.length_take] at hz
        split at hz
        · have hlw := (List.getElem?_eq_some_iff.mp ex).1
          rw [Nat.min_eq_left (by omega)] at hz
          exact hch (i - 1) z x hz (by rw [show i - 1 + 1 = i by omega]; exact ex)
        · cases hz
      have lc : c.length ≤ 1000 := by
        have h1 := sh.len
        rw [List.length_take] at h1
        omega
      have hxl := (List.getElem?_eq_some_iff.mp ex).1
      refine ⟨fun σ' H' => ∃ (l : Addr) (c : List Nat) (tn : Option Nat), σ' = [some (.ref p), some (.ref l), some (oN tn), some (.int (x : Int))] ∧ Same H H' ∧ H l = none ∧ H' l = some (.lst (nV c)) ∧ ShOk G wt o (w.take (i + 1)) (c ++ [x]) tn, ?_, ?_⟩
      · refine ⟨_, rfl, _, rfl, l, _, rfl, .inl (sqL el), rfl, by rw [nV_int]; exact flat_ints _, _, rfl, ?_⟩
        rw [show (if false = true then !inV (V.int (x : Int)) (nV c) else inV (V.int (x : Int)) (nV c)) = decide (x ∈ c) from in_nV x c]
        refine ite2 (fun e => ?_) (fun e => ?_)
        · have hx := of_decide_eq_true e
          obtain ⟨f1, f2, f3⟩ := ixn_facts hx
          refine ⟨_, rfl, _, rfl, .inl ⟨rfl, _, sqL el⟩, _, rfl, l, _, _, _, _, rfl, rfl, sqL el, rfl, by rw [nV_int]; exact flat_ints _, f1, f2, f3, _, rfl, l, _, rfl, sqL el, fun l2 nl2 => ?_⟩
          refine ⟨_, rfl, l2, c.take (ixN x c), some x, rfl, s2.trans (same_new nl2), none_of s2 nl2, ?_, ?_⟩
          · rw [upd_same, cut_to, nV_take]
          · rw [et]
            exact sh.cut hw hx
        · have hx : x ∉ c := fun z => e (decide_eq_true z)
          refine ⟨l, c, tn, rfl, s2, nl, el, ?_⟩
          rw [et]
          exact sh.new hw hx
      · rintro σ' H3 ⟨l, c, tn, rfl, s3, nl3, el3, sh3⟩
        have hl3 := sh3.len
        rw [List.length_append, List.length_take] at hl3
        refine ⟨_, rfl, .inl ⟨rfl, _, sqL el3⟩, _, rfl, l, _, _, rfl, rfl, el3, by rw [nV_len]; exact szl (by show c.length < 100000; have : c.length + 1 ≤ w.length := Nat.le_trans hl3 (Nat.min_le_right _ _); omega), ?_⟩
        exact ⟨l, c ++ [x], tn, _, rfl, same_mut s3 nl3, nl3, by rw [upd_same, nV_app]; rfl, sh3⟩
    · rintro σ H' ⟨l, c, tn, x3, rfl, s2, nl, el, sh⟩
      rw [nV_len, take_all] at sh
      refine ⟨_, rfl, _, rfl, by show 2 ≤ sizeLine; decide, fun t nt => ?_⟩
      exact q _ t l c tn (s2.trans (same_new nt)) nl upd_same (same_new nt _ _ el) sh
end
end B65

end

section
set_option Elab.async false
set_option linter.all false
set_option maxRecDepth 100000
set_option maxHeartbeats 1000000
namespace B65
open PySem PySem.Spec PyProof.Rows L2
section
variable {P : Program} {w : World} {K : PySem.W.Frag} {mg : Str → Option Value} {base : Heap}
theorem Chn.cons {R : Nat → Nat → Prop} {w : List Nat} {x y : Nat} (h : Chn R w) (hy : w[0]? = some y) (r : R x y) : Chn R (x :: w) := by
  intro i p q h1 h2
  cases i with
  | zero =>
    rw [List.getElem?_cons_zero] at h1
    cases h1
    rw [List.getElem?_cons_succ, hy] at h2
    cases h2
    exact r
  | succ i => exact h i p q (by simpa using h1) (by simpa using h2)
theorem Chn.app {R : Nat → Nat → Prop} : ∀ {r w : List Nat} {x : Nat}, Chn R w → w.getLast? = some x → Chn R (x :: r) → Chn R (w ++ r)
  | [], w, x, h, _, _ => by rw [List.append_nil]; exact h
  | y :: r, w, x, h, hl, h2 => by
    have q := Chn.app (r := r) (x := y) (h.add hl (h2 0 x y rfl rfl)) (by simp) (fun i a b e1 e2 => h2 (i + 1) a b (by simpa using e1) (by simpa using e2))
    rw [List.append_assoc] at q
    exact q
/-- a round -/
structure Tn (G : Nat → List Edge) (wt : Nat → Bool) (o : Int) (n x : Nat) (u : List Nat) : Prop where
  two : 2 ≤ u.length
  len : u.length ≤ n + 1
  lt : ∀ y ∈ u, y < n
  ch : Chn (fun x y => y ∈ bh G wt o x) u
  first : u[0]? = some x
  last : u.getLast? = some x
theorem SeekAt.meth {H : Hp} {a : Addr} {n : Nat} {G : Nat → List Edge} {wt : Nat → Bool} {other : Nat} (h : SeekAt K H a n G wt other) {m : Str} (hm : m ∈ meths) : ∃ dx fs, H a = some (.ins (He.ga K "Seeker") dx fs) ∧ fs.lookup m = none := by
  obtain ⟨dx, fs, st, wl, a1, a2, a3⟩ := h
  exact ⟨dx, fs, a1, a2 _ hm⟩
theorem SeekAt.gra {H : Hp} {a : Addr} {n : Nat} {G : Nat → List Edge} {wt : Nat → Bool} {other : Nat} (h : SeekAt K H a n G wt other) : GraOk G n := by
  obtain ⟨dx, fs, st, wl, a1, a2, a3, a4, a5, a6, a7, a8, a9⟩ := h
  exact a8
def sp_Seeker_round_of (K : PySem.W.Frag) : Sp := fun vs H Q _ => ∃ (a : Addr) (x n : Nat) (G : Nat → List Edge) (wt : Nat → Bool) (other : Nat), vs = [.ref a, .int (x : Int)] ∧ SeekAt K H a n G wt other ∧ x < n ∧ ∀ H' l u, Same H H' → H l = none → H' l = some (.lst (nV u)) → ((u = [] ∧ ¬ OnR G wt (other : Int) x) ∨ (Tn G wt (other : Int) n x u ∧ OnR G wt (other : Int) x)) → Q (.ref l) H'
theorem sc_Seeker_round_of : FnScope ["self", "row", "following"] ["self", "row"] (defScope (inClass (topS 56) 7)) := ⟨rfl, rfl, rfl, by decide +kernel, rfl, by decide +kernel, by decide +kernel⟩
theorem ok_Seeker_round_of (T : Txt K mg) : OkM P w K mg base 4 "round_of" ["self", "row"] (sp_Seeker_round_of K) := by
  obtain ⟨fd, F⟩ := T.d_Seeker_round_of
  obtain ⟨fd_Seeker_behind, G_Seeker_behind, kp_Seeker_behind, b_Seeker_behind⟩ := ok_Seeker_behind (P := P) (w := w) (base := base) T
  obtain ⟨fd_Seeker_met_from, G_Seeker_met_from, kp_Seeker_met_from, b_Seeker_met_from⟩ := ok_Seeker_met_from (P := P) (w := w) (base := base) T
  obtain ⟨fd_Seeker_way, G_Seeker_way, kp_Seeker_way, b_Seeker_way⟩ := ok_Seeker_way (P := P) (w := w) (base := base) T
  refine ⟨fd, F.ok sc_Seeker_round_of (fun vs H Q E h => ?_) (fun cdv A outer s H vs Q E hr h => ?_), F.kp, F.bindsN fun _ _ _ _ _ _ us hl => match us, hl with | [_, _], _ => rfl⟩
  · obtain ⟨a, x, n, G, wt, other, rfl, _⟩ := h
    rfl
  · obtain ⟨a, x, n, G, wt, other, rfl, hs, hi, q⟩ := h
    have hu := hu_of hr
    refine ⟨_, PSs.nox (pss_cons (ps_for PassesOwn.never rfl (pi_list (pe_meth (pv 0) T.cl T.m_behind G_Seeker_behind (hr.mono (by decide)) b_Seeker_behind .nil pass0 (pa_cons (pv 1) pa_nil))) (pg_name (i := 2) sc_Seeker_round_of.nd rfl (by first | exact Or.inl rfl | exact Or.inr rfl))
      (pss_one (ps_if (pt_cmp (pc_din hu (pv 1) (pe_meth (pv 0) T.cl T.m_met_from G_Seeker_met_from (hr.mono (by decide)) b_Seeker_met_from .nil pass0 (pa_cons (pv 2) pa_nil))))
      (pss_one (ps_ret (pe_op op_cat (pe_lst (pa_cons (pv 1) pa_nil)) (pe_meth (pv 0) T.cl T.m_way G_Seeker_way hr b_Seeker_way .nil pass0 (pa_cons (pv 2) (pa_cons (pv 1) pa_nil))))))
      pss_nil)))
      (pss_one (ps_ret (pe_lst pa_nil)))), ?_⟩
    have g := hs.gra
    have n120 := g.n120
    obtain ⟨dx, fs, m1, m2⟩ := hs.meth (m := "behind") (by decide)
    obtain ⟨dx3, fs3, m3, m4⟩ := hs.meth (m := "met_from") (by decide)
    obtain ⟨dx5, fs5, m5, m6⟩ := hs.meth (m := "way") (by decide)
    refine ⟨_, rfl, a, dx, fs, rfl, m1, m2, _, rfl, a, x, n, G, wt, other, rfl, hs, hi, fun H1 bl s1 nb eb => ?_⟩
    refine ⟨bl, rfl, ⟨_, sqL eb⟩, for_it (walk_list (K := K) (a := bl) (xs := nV (bh G wt (other : Int) x))) (fun j σ H' => ∃ x2, σ = [some (.ref a), some (.int (x : Int)), x2] ∧ Same H H' ∧ Same H1 H' ∧ ∀ y ∈ (bh G wt (other : Int) x).take j, ¬ Rc G wt (other : Int) y x) ⟨none, rfl, s1, Same.refl _, fun y hy => by simp at hy⟩ (fun j σ H' _ ⟨_, _, _, e, _⟩ => sqL (e _ _ eb)) ?_ ?_⟩
    · rintro j yv σ H2 H' hj ⟨x2, rfl, s2, s3, hno⟩ ⟨rfl, eyv⟩
      obtain ⟨y, ey, rfl⟩ := nV_get eyv
      have hy := List.mem_of_getElem? ey
      have hyn := bh_lt g hi hy
      have et : (bh G wt (other : Int) x).take (j + 1) = (bh G wt (other : Int) x).take j ++ [y] := by rw [List.take_add_one, ey]; rfl
      refine ⟨_, rfl, _, rfl, a, dx3, fs3, rfl, s2 _ _ m3, m4, _, rfl, a, y, n, G, wt, other, rfl, hs.same s2, hyn, fun H3 d f s4 nd ed mo => ⟨d, _, rfl, dgN ed x, ?_⟩⟩
      cases q5 : lk f x with
      | none =>
        refine ⟨false, rfl, _, rfl, s2.trans s4, s3.trans s4, fun z hz => ?_⟩
        rw [et] at hz
        rcases List.mem_append.mp hz with e | e
        · exact hno z e
        · rw [List.mem_singleton.mp e]
          exact fun rc => lk_none.mp q5 ((mo.rc x).mpr rc)
      | some v =>
        have rc := (mo.rc x).mp (lk_ks q5)
        refine ⟨true, rfl, _, rfl, by show 1 ≤ sizeLine; decide, fun l1 nl1 => ?_⟩
        have s24 := s2.trans s4
        have s5 := s24.trans (same_new (o := .lst [V.int (x : Int)]) nl1)
        have el1 : upd H3 l1 (.lst [V.int (x : Int)]) l1 = some (.lst (nV [x])) := upd_same
        generalize upd H3 l1 (.lst [V.int (x : Int)]) = H4 at *
        refine ⟨_, rfl, a, dx5, fs5, rfl, s5 _ _ m5, m6, _, rfl, _, rfl, a, y, x, n, G, wt, other, rfl, hs.same s5, hyn, rc, fun H5 l2 w s6 nl2 el2 wk => ?_⟩
        have hlen := wk.len
        refine ⟨l1, l2, _, _, rfl, rfl, s6 _ _ el1, el2, sz (by rw [nV_len, nV_len]; show 1 + w.length ≤ 100000; omega), fun p np => ?_⟩
        refine q _ p (x :: w) ((s5.trans s6).trans (same_new np)) (none_of (s5.trans s6) np) (by rw [upd_same, ← nV_app]; rfl) (.inr ⟨⟨?_, ?_, ?_, ?_, rfl, ?_⟩, y, hy, rc⟩)
        · have := (List.getElem?_eq_some_iff.mp wk.first).1
          rw [List.length_cons]
          omega
        · rw [List.length_cons]
          omega
        · intro z hz
          rcases List.mem_cons.mp hz with e | e
          · rw [e]; exact hi
          · exact wk.lt z e
        · exact wk.ch.cons wk.first hy
        · rw [List.getLast?_cons, wk.last]
          rfl
    · rintro σ H' ⟨x2, rfl, s2, s3, hno⟩
      rw [nV_len, take_all] at hno
      refine ⟨Nat.zero_le _, fun l nl => ?_⟩
      exact q _ l [] (s2.trans (same_new nl)) (none_of s2 nl) upd_same (.inl ⟨rfl, fun ⟨y, y1, y2⟩ => hno y y1 y2⟩)
/-- the seeker made -/
def SeekF (K : PySem.W.Frag) (H : Hp) (a : Addr) (n : Nat) (G : Nat → List Edge) (wt : Nat → Bool) (one other : Nat) (f : List (Nat × Int)) (kp : List Nat) : Prop := SeekAt K H a n G wt other ∧ ∃ dx fs md kl, H a = some (.ins (He.ga K "Seeker") dx fs) ∧ fs.lookup ("one" : Str) = some (.int (one : Int)) ∧
  fs.lookup ("other" : Str) = some (.int (other : Int)) ∧ fs.lookup ("met" : Str) = some (.ref md) ∧ fs.lookup ("kept" : Str) = some (.ref kl) ∧ H md = some (.dK (dN f)) ∧ H kl = some (.lst (nV kp)) ∧ MetOk G wt (other : Int) n one f ∧ one < n ∧ kp.Nodup ∧ ∀ x, x ∈ kp ↔ Rc G wt (other : Int) one x ∧ Rc G wt (other : Int) x other
theorem SeekF.same {H H' : Hp} {a : Addr} {n : Nat} {G : Nat → List Edge} {wt : Nat → Bool} {one other : Nat} {f : List (Nat × Int)} {kp : List Nat} (s : Same H H') (h : SeekF K H a n G wt one other f kp) : SeekF K H' a n G wt one other f kp := by
  obtain ⟨h0, dx, fs, md, kl, a1, a2, a3, a4, a5, a6, a7, a8⟩ := h
  exact ⟨h0.same s, dx, fs, md, kl, s _ _ a1, a2, a3, a4, a5, s _ _ a6, s _ _ a7, a8⟩
theorem bh_other {G : Nat → List Edge} {wt : Nat → Bool} {other : Nat} : bh G wt (other : Int) other = [] := if_pos rfl
theorem OnR.ne {G : Nat → List Edge} {wt : Nat → Bool} {other x : Nat} (h : OnR G wt (other : Int) x) : x ≠ other := by
  obtain ⟨y, y1, _⟩ := h
  intro e
  rw [e, bh_other] at y1
  cases y1
theorem Rc.lt {G : Nat → List Edge} {wt : Nat → Bool} {o : Int} {n s x : Nat} (g : GraOk G n) (hs : s < n) (h : Rc G wt o s x) : x < n := by
  induction h with
  | refl => exact hs
  | step _ h ih => exact bh_lt g ih h
def sp_Seeker_turning (K : PySem.W.Frag) : Sp := fun vs H Q _ => ∃ (a : Addr) (n : Nat) (G : Nat → List Edge) (wt : Nat → Bool) (one other : Nat) (f : List (Nat × Int)) (kp : List Nat), vs = [.ref a] ∧ SeekF K H a n G wt one other f kp ∧ ∀ H' tn, Same H H' → ((tn = none ∧ ∀ x ∈ kp, ¬ OnR G wt (other : Int) x) ∨ ∃ x, tn = some x ∧ x ∈ kp ∧ OnR G wt (other : Int) x) → Q (oN tn) H'
theorem sc_Seeker_turning : FnScope ["self", "row"] ["self"] (defScope (inClass (topS 56) 8)) := ⟨rfl, rfl, rfl, by decide +kernel, rfl, by decide +kernel, by decide +kernel⟩
theorem ok_Seeker_turning (T : Txt K mg) : OkM P w K mg base 5 "turning" ["self"] (sp_Seeker_turning K) := by
  obtain ⟨fd, F⟩ := T.d_Seeker_turning
  obtain ⟨fd_Seeker_round_of, G_Seeker_round_of, kp_Seeker_round_of, b_Seeker_round_of⟩ := ok_Seeker_round_of (P := P) (w := w) (base := base) T
  refine ⟨fd, F.ok sc_Seeker_turning (fun vs H Q E h => ?_) (fun cdv A outer s H vs Q E hr h => ?_), F.kp, F.bindsN fun _ _ _ _ _ _ us hl => match us, hl with | [_], _ => rfl⟩
  · obtain ⟨a, n, G, wt, one, other, f, kp, rfl, _⟩ := h
    rfl
  · obtain ⟨a, n, G, wt, one, other, f, kp, rfl, hs, q⟩ := h
    have hu := hu_of hr
    refine ⟨_, PSs.nox (pss_cons (ps_for PassesOwn.never rfl (pi_list (pe_fld (pv 0) rfl)) (pg_name (i := 1) sc_Seeker_turning.nd rfl (by first | exact Or.inl rfl | exact Or.inr rfl))
      (pss_one (ps_if (PW.pt (pw_and (pt_cmpR op_ne (pv 1) (pe_fld (pv 0) rfl) (nomark _)) (pw_and1 (pt_cmpR op_gt (pe_callB call_len_seq (by rfl) T.z_len (by decide +kernel) (pa_cons (pe_meth (pv 0) T.cl T.m_round_of G_Seeker_round_of hr b_Seeker_round_of .nil pass0 (pa_cons (pv 1) pa_nil)) pa_nil)) pe_int (nomark _)))))
      (pss_one (ps_ret (pv 1)))
      pss_nil)))
      (pss_one (ps_ret pe_non))), ?_⟩
    obtain ⟨h0, dx, fs, md, kl, a1, a2, a3, a4, a5, a6, a7, a8, a9, a10, a11⟩ := id hs
    have g := h0.gra
    obtain ⟨dx3, fs3, m3, m4⟩ := h0.meth (m := "round_of") (by decide)
    refine ⟨_, rfl, a, _, dx, fs, _, rfl, a1, T.cl, T.a_kept, a5, kl, rfl, ⟨_, sqL a7⟩, for_it (walk_list (K := K) (a := kl) (xs := nV kp)) (fun j σ H' => ∃ x1, σ = [some (.ref a), x1] ∧ Same H H' ∧ ∀ y ∈ kp.take j, ¬ OnR G wt (other : Int) y) ⟨none, rfl, Same.refl _, fun y hy => by simp at hy⟩ (fun j σ H' _ ⟨_, _, e, _⟩ => sqL (e _ _ a7)) ?_ ?_⟩
    · rintro j yv σ H2 H' hj ⟨x1, rfl, s2, hno⟩ ⟨rfl, eyv⟩
      obtain ⟨y, ey, rfl⟩ := nV_get eyv
      have hy := List.mem_of_getElem? ey
      have hyn := Rc.lt g a9 ((a11 y).mp hy).1
      have et : kp.take (j + 1) = kp.take j ++ [y] := by rw [List.take_add_one, ey]; rfl
      have add : ∀ {P : Nat → Prop}, (∀ z ∈ kp.take j, P z) → P y → ∀ z ∈ kp.take (j + 1), P z := fun h1 h2 z hz => by
        rw [et] at hz
        rcases List.mem_append.mp hz with e | e
        · exact h1 z e
        · rw [List.mem_singleton.mp e]
          exact h2
      refine ⟨_, rfl, _, rfl, a, _, dx, fs, _, rfl, s2 _ _ a1, T.cl, T.a_other, a3, rfl, _, rfl, ?_⟩
      rw [ne_bl]
      refine ite2 (fun e => ?_) (fun e => ?_)
      · refine ⟨_, rfl, a, dx3, fs3, rfl, s2 _ _ m3, m4, _, rfl, a, y, n, G, wt, other, rfl, h0.same s2, hyn, fun H3 l u s3 nl el hu => ?_⟩
        refine ⟨l, _, rfl, .inl (sqL el), _, _, rfl, rfl, ?_⟩
        rcases hu with ⟨u0, u1⟩ | ⟨u0, u1⟩
        · subst u0
          exact ⟨false, rfl, _, rfl, s2.trans s3, add hno u1⟩
        · have := u0.two
          exact ⟨true, congrArg V.bl (decide_eq_true (by rw [nV_len]; omega)), _, rfl, q _ (some y) (s2.trans s3) (.inr ⟨y, rfl, hy, u1⟩)⟩
      · have ez : y = other := by simpa using e
        exact ⟨_, rfl, s2, add hno (fun z => z.ne ez)⟩
    · rintro σ H' ⟨x1, rfl, s2, hno⟩
      rw [nV_len, take_all] at hno
      exact q _ none s2 (.inl ⟨rfl, hno⟩)
theorem WayOk.of {G : Nat → List Edge} {wt : Nat → Bool} {n one other : Nat} {c : List Nat} (n120 : n ≤ 120) (nd : c.Nodup) (lt : ∀ x ∈ c, x < n) (ch : Chn (fun x y => y ∈ bh G wt (other : Int) x) c) (hf : c[0]? = some one) (hl : c.getLast? = some other) (ne : one ≠ other) : WayOk G wt n one other c := by
  have len := nd_len nd lt
  have two : 2 ≤ c.length := by
    match c, hf, hl with
    | [x], hf, hl =>
      cases hf
      cases hl
      exact absurd rfl ne
    | _ :: _ :: _, _, _ => exact Nat.le_add_left _ _
  refine ⟨two, by omega, lt, ch.mono (fun x y h => (bh_mem.mp h).2.1), hf, hl, fun x hx => ?_⟩
  obtain ⟨i, hi, e⟩ := List.mem_iff_getElem.mp hx
  have e2 : ((c.drop 1).take (c.length - 2))[i]? = some x := by rw [List.getElem?_eq_getElem hi, e]
  rw [List.getElem?_take] at e2
  split at e2
  · rw [List.getElem?_drop] at e2
    have e0 : c[i]? = some (c[i]'(by omega)) := List.getElem?_eq_getElem _
    rw [Nat.add_comm 1 i] at e2
    have b := ch i _ x e0 e2
    refine ⟨(bh_mem.mp b).2.2, fun z => ?_⟩
    rw [List.getLast?_eq_getElem?] at hl
    rw [z] at e2
    have := nd_ix nd e2 hl
    omega
  · cases e2
theorem TurnOk.of {G : Nat → List Edge} {wt : Nat → Bool} {n other x : Nat} {u w : List Nat} (n120 : n ≤ 120) (h : Tn G wt (other : Int) n x u) (hw : x ∈ w) : TurnOk G wt n other w u := by
  have l9 := h.len
  refine ⟨h.two, by omega, h.lt, h.ch.mono (fun x y h => (bh_mem.mp h).2.1), ⟨x, h.first, h.last, hw⟩, fun y hy => ?_⟩
  have t9 := h.two
  have prev : ∀ (i z : Nat), u[i + 1]? = some z → wt z = false := fun i z e => by
    have := (List.getElem?_eq_some_iff.mp e).1
    exact (bh_mem.mp (h.ch i _ z (List.getElem?_eq_getElem (by omega)) e)).2.2
  have next : ∀ (i z : Nat), i + 1 < u.length → u[i]? = some z → z ≠ other := fun i z l e => by
    intro e2
    have q := h.ch i z _ e (List.getElem?_eq_getElem l)
    rw [e2, bh_other] at q
    cases q
  have lastx : u[u.length - 1]? = some x := by
    have := h.last
    rw [List.getLast?_eq_getElem?] at this
    exact this
  obtain ⟨i, hi, e⟩ := List.mem_iff_getElem.mp hy
  have e2 : u[i]? = some y := by rw [List.getElem?_eq_getElem hi, e]
  constructor
  · match i, e2 with
    | 0, e2 =>
      rw [h.first] at e2
      cases e2
      exact prev (u.length - 2) x (by rw [show u.length - 2 + 1 = u.length - 1 by omega]; exact lastx)
    | i + 1, e2 => exact prev i y e2
  · by_cases l : i + 1 < u.length
    · exact next i y l e2
    · have : i = u.length - 1 := by omega
      subst this
      rw [lastx] at e2
      cases e2
      exact next 0 x (by omega) h.first
theorem Rc.snoc_wk {G : Nat → List Edge} {wt : Nat → Bool} {o : Int} {n a b c : Nat} {w1 w2 : List Nat} (h1 : Wk G wt o n a b w1) (h2 : Wk G wt o n b c w2) : Chn (fun x y => y ∈ bh G wt o x) (w1 ++ w2.drop 1) ∧ (w1 ++ w2.drop 1)[0]? = some a ∧ (w1 ++ w2.drop 1).getLast? = some c ∧ (∀ x ∈ w1 ++ w2.drop 1, x < n) ∧ b ∈ w1 ++ w2.drop 1 := by
  match w2, h2 with
  | [], h2 => exact absurd h2.first (by simp)
  | x :: r, h2 =>
    have ex : x = b := Option.some.inj h2.first
    subst ex
    refine ⟨h1.ch.app h1.last h2.ch, ?_, ?_, ?_, ?_⟩
    · rw [List.getElem?_append_left (List.getElem?_eq_some_iff.mp h1.first).1]
      exact h1.first
    · have hl := h2.last
      rw [List.getLast?_cons] at hl
      show (w1 ++ r).getLast? = _
      rw [List.getLast?_append, h1.last]
      cases q : r.getLast? with
      | none => rw [q] at hl; exact hl
      | some z => rw [q] at hl; exact hl
    · intro z hz
      rcases List.mem_append.mp hz with e | e
      · exact h1.lt z e
      · exact h2.lt z (List.mem_cons.mpr (.inr e))
    · exact List.mem_append.mpr (.inl (List.mem_of_getLast? h1.last))
def sp_round_paper (K : PySem.W.Frag) : Sp := fun vs H Q _ => ∃ (a : Addr) (x n : Nat) (G : Nat → List Edge) (wt : Nat → Bool) (one other : Nat) (f : List (Nat × Int)) (kp : List Nat), vs = [.ref a, .int (x : Int)] ∧ SeekF K H a n G wt one other f kp ∧ one ≠ other ∧ x ∈ kp ∧ OnR G wt (other : Int) x ∧ ∀ H' t c u, Same H H' → HighAt K H' t (.round c u) → HighOk G wt n one other (.round c u) → Q (.ref t) H'
theorem sc_round_paper : FnScope ["seeker", "row", "way", "turn"] ["seeker", "row"] (defScope (topS 60)) := ⟨rfl, rfl, rfl, by decide +kernel, rfl, by decide +kernel, by decide +kernel⟩
theorem ok_round_paper (T : Txt K mg) : Ok P w K mg base 5 "round_paper" ["seeker", "row"] (sp_round_paper K) := by
  obtain ⟨fd, F⟩ := T.d_round_paper
  obtain ⟨fd_shortened, G_shortened, kp_shortened, b_shortened⟩ := ok_shortened (P := P) (w := w) (base := base) T
  obtain ⟨fd_Seeker_way, G_Seeker_way, kp_Seeker_way, b_Seeker_way⟩ := ok_Seeker_way (P := P) (w := w) (base := base) T
  obtain ⟨fd_Seeker_round_of, G_Seeker_round_of, kp_Seeker_round_of, b_Seeker_round_of⟩ := ok_Seeker_round_of (P := P) (w := w) (base := base) T
  refine ⟨fd, F.ok sc_round_paper (fun vs H Q E h => ?_) (fun cdv A outer s H vs Q E hr h => ?_), F.kp, F.bindsN fun _ _ _ _ _ _ us hl => match us, hl with | [_, _], _ => rfl⟩
  · obtain ⟨a, x, n, G, wt, one, other, f, kp, rfl, _⟩ := h
    rfl
  · obtain ⟨a, x, n, G, wt, one, other, f, kp, rfl, hs, hne, hx, hr9, q⟩ := h
    have hu := hu_of hr
    refine ⟨_, PSs.nox (pss_cons (ps_asg (pe_call G_shortened (hr.mono (by decide)) (by rfl) T.g_shortened kp_shortened b_shortened .nil pass0 (pa_cons (pe_op op_cat (pe_meth (pv 0) T.cl T.m_way G_Seeker_way (hr.mono (by decide)) b_Seeker_way .nil pass0 (pa_cons (pe_fld (pv 0) rfl) (pa_cons (pv 1) pa_nil))) (pe_slice sl_list (pe_meth (pv 0) T.cl T.m_way G_Seeker_way (hr.mono (by decide)) b_Seeker_way .nil pass0 (pa_cons (pv 1) (pa_cons (pe_fld (pv 0) rfl) pa_nil))) (po_some pe_int) po_none)) pa_nil)) (pg_tup rfl (pgs_cons (pg_name (i := 2) sc_round_paper.nd rfl (by first | exact Or.inl rfl | exact Or.inr rfl)) (pgs_cons (pg_name (i := 3) sc_round_paper.nd rfl (by first | exact Or.inl rfl | exact Or.inr rfl)) pgs_nil))))
      (Evl.pss_cut (ps_if (pt_cmpR op_isN (pv 3) pe_non (nomark _))
      (pss_one (ps_set (i := 3) sc_round_paper.nd rfl (by first | exact Or.inl rfl | exact Or.inr rfl) (pv 1)))
      pss_nil)
      (pss_one (ps_ret (pe_tup (pa_cons pe_str (pa_cons (pe_callTy R65.call_tupF (by rfl) T.z_tuple (by decide +kernel) (pa_cons (pv 2) pa_nil)) (pa_cons (pe_callTy R65.call_tupF (by rfl) T.z_tuple (by decide +kernel) (pa_cons (pe_meth (pv 0) T.cl T.m_round_of G_Seeker_round_of hr b_Seeker_round_of .nil pass0 (pa_cons (pv 3) pa_nil)) pa_nil)) pa_nil)))))))), ?_⟩
    obtain ⟨h0, dx, fs, md, kl, a1, a2, a3, a4, a5, a6, a7, a8, a9, a10, a11⟩ := id hs
    have g := h0.gra
    have n120 := g.n120
    obtain ⟨dx3, fs3, m3, m4⟩ := h0.meth (m := "way") (by decide)
    obtain ⟨dx5, fs5, m5, m6⟩ := h0.meth (m := "round_of") (by decide)
    obtain ⟨r1, r2⟩ := (a11 x).mp hx
    have hxn := Rc.lt g a9 r1
    refine ⟨_, rfl, a, dx3, fs3, rfl, m3, m4, _, rfl, a, _, dx, fs, _, rfl, a1, T.cl, T.a_one, a2, _, rfl, a, one, x, n, G, wt, other, rfl, h0, a9, r1, fun H1 l1 w1 s1 nl1 el1 wk1 => ?_⟩
    refine ⟨_, rfl, a, dx3, fs3, rfl, s1 _ _ m3, m4, _, rfl, _, rfl, a, _, dx, fs, _, rfl, s1 _ _ a1, T.cl, T.a_other, a3, a, x, other, n, G, wt, other, rfl, h0.same s1, hxn, r2, fun H2 l2 w2 s2 nl2 el2 wk2 => ?_⟩
    refine ⟨_, rfl, l2, _, rfl, sqL el2, fun p np => ?_⟩
    have s12 := s1.trans s2
    have s3 := s12.trans (same_new (o := .lst (cutV (nV w2) (some 1) none)) np)
    have e13 : upd H2 p (.lst (cutV (nV w2) (some 1) none)) l1 = some (.lst (nV w1)) := same_new np _ _ (s2 _ _ el1)
    have e23 : upd H2 p (.lst (cutV (nV w2) (some 1) none)) p = some (.lst (nV (w2.drop 1))) := by rw [upd_same, cut_tail, nV_drop]
    generalize upd H2 p (.lst (cutV (nV w2) (some 1) none)) = H3 at *
    obtain ⟨c1, c2, c3, c4, c5⟩ := Rc.snoc_wk wk1 wk2
    have len1 := wk1.len
    have len2 := wk2.len
    refine ⟨l1, p, _, _, rfl, rfl, e13, e23, sz (by rw [nV_len, nV_len, List.length_drop]; omega), fun q9 nq9 => ?_⟩
    have s4 := s3.trans (same_new (o := .lst (nV w1 ++ nV (w2.drop 1))) nq9)
    have e4 : upd H3 q9 (.lst (nV w1 ++ nV (w2.drop 1))) q9 = some (.lst (nV (w1 ++ w2.drop 1))) := by rw [upd_same, nV_app]
    generalize upd H3 q9 (.lst (nV w1 ++ nV (w2.drop 1))) = H4 at *
    refine ⟨q9, w1 ++ w2.drop 1, G, wt, other, rfl, e4, by rw [List.length_append, List.length_drop]; omega, c1, fun H5 t l c tn s5 nl et el sh => ?_⟩
    have s45 := s4.trans s5
    refine ⟨t, _, rfl, sqT et, rfl, _, _, rfl, _, _, rfl, rfl, ?_⟩
    refine ⟨fun σ' H' => ∃ y : Nat, σ' = [some (.ref a), some (.int (x : Int)), some (.ref l), some (.int (y : Int))] ∧ H' = H5 ∧ y ∈ c ∧ OnR G wt (other : Int) y, ?_, ?_⟩
    · cases tn with
      | none => exact ⟨_, rfl, rfl, true, rfl, _, rfl, x, rfl, rfl, by rw [sh.tn rfl]; exact c5, hr9⟩
      | some y =>
        obtain ⟨y1, y2⟩ := sh.ts y rfl
        exact ⟨_, rfl, rfl, false, rfl, y, rfl, rfl, y1, y2⟩
    · rintro σ' H' ⟨y, rfl, rfl, hy, hyr⟩
      have hlt : ∀ z ∈ c, z < n := fun z hz => c4 z (sh.sub z hz)
      have wok : WayOk G wt n one other c := WayOk.of n120 sh.nd hlt sh.ch (by rw [sh.first, c2]) (by rw [sh.last, c3]) hne
      refine ⟨_, rfl, l, _, rfl, sqL el, fun tw o ntw ho => ?_⟩
      have s6 := s45.trans (same_new (o := .frz o (.tup (nV c))) ntw)
      have e6 : upd H' tw (.frz o (.tup (nV c))) tw = some (.frz o (.tup (nV c))) := upd_same
      generalize upd H' tw (.frz o (.tup (nV c))) = H6 at *
      refine ⟨_, rfl, a, dx5, fs5, rfl, s6 _ _ m5, m6, _, rfl, a, y, n, G, wt, other, rfl, h0.same s6, hlt y hy, fun H7 l7 u s7 nl7 el7 hu => ?_⟩
      rcases hu with ⟨_, hu⟩ | ⟨hu, _⟩
      · exact absurd hyr hu
      refine ⟨l7, _, rfl, sqL el7, fun tu o2 ntu ho2 => ?_⟩
      have s8 := (s6.trans s7).trans (same_new (o := .frz o2 (.tup (nV u))) ntu)
      have e8 : upd H7 tu (.frz o2 (.tup (nV u))) tu = some (.frz o2 (.tup (nV u))) := upd_same
      have e68 : upd H7 tu (.frz o2 (.tup (nV u))) tw = some (.frz o (.tup (nV c))) := same_new ntu _ _ (s7 _ _ e6)
      generalize upd H7 tu (.frz o2 (.tup (nV u))) = H8 at *
      refine ⟨by show 3 ≤ sizeLine; decide, fun tt ntt => ?_⟩
      exact q _ tt c u (s8.trans (same_new ntt)) ⟨tw, tu, sqT upd_same, ⟨o, same_new ntt _ _ e68, ho⟩, .inl (.inr ⟨o2, same_new ntt _ _ e8⟩)⟩ ⟨wok, TurnOk.of n120 hu hy⟩
end
end B65

end

section
set_option Elab.async false
set_option linter.all false
set_option maxRecDepth 100000
set_option maxHeartbeats 1000000
namespace B65
open PySem PySem.Spec PyProof.Rows L2
section
variable {P : Program} {w : World} {K : PySem.W.Frag} {mg : Str → Option Value} {base : Heap}
theorem WayOk.mk2 {G : Nat → List Edge} {wt : Nat → Bool} {n one other : Nat} {c : List Nat} (len : c.length ≤ 200) (lt : ∀ x ∈ c, x < n) (ch : Chn (fun x y => y ∈ bh G wt (other : Int) x) c) (hf : c[0]? = some one) (hl : c.getLast? = some other) (ne : one ≠ other) : WayOk G wt n one other c := by
  have two : 2 ≤ c.length := by
    match c, hf, hl with
    | [x], hf, hl =>
      cases hf
      cases hl
      exact absurd rfl ne
    | _ :: _ :: _, _, _ => exact Nat.le_add_left _ _
  refine ⟨two, len, lt, ch.mono (fun x y h => (bh_mem.mp h).2.1), hf, hl, fun x hx => ?_⟩
  obtain ⟨i, hi, e⟩ := List.mem_iff_getElem.mp hx
  have e2 : ((c.drop 1).take (c.length - 2))[i]? = some x := by rw [List.getElem?_eq_getElem hi, e]
  rw [List.getElem?_take] at e2
  split at e2
  · rw [List.getElem?_drop, Nat.add_comm 1 i] at e2
    have e0 : c[i]? = some (c[i]'(by omega)) := List.getElem?_eq_getElem _
    have e3 : c[i + 1 + 1]? = some (c[i + 1 + 1]'(by omega)) := List.getElem?_eq_getElem _
    refine ⟨(bh_mem.mp (ch i _ x e0 e2)).2.2, fun z => ?_⟩
    have q := ch (i + 1) x _ e2 e3
    rw [z, bh_other] at q
    cases q
  · cases e2
def sp_way_back (K : PySem.W.Frag) : Sp := fun vs H Q _ => ∃ (d : Addr) (fa : List (Nat × Int)) (one e N : Nat) (R : Nat → Nat → Prop) (good : Nat → Prop) (rk : Nat → Nat), vs = [.ref d, .int (one : Int), .int (e : Int)] ∧ H d = some (.dK (dN fa)) ∧ (∀ x, good x → x ≠ one → ∃ y : Nat, lk fa x = some (y : Int) ∧ R y x ∧ good y ∧ rk y < rk x) ∧ good e ∧ rk e ≤ 10000 ∧
  ∀ H' t w, Same H H' → SqT K H' t (nV w) → w[0]? = some one → w.getLast? = some e → Chn (fun x y => R x y ∧ rk x < rk y) w → (∀ x ∈ w, good x) → Q (.ref t) H'
theorem sc_way_back : FnScope ["ahead", "one", "other", "found"] ["ahead", "one", "other"] (defScope (topS 58)) := ⟨rfl, rfl, rfl, by decide +kernel, rfl, by decide +kernel, by decide +kernel⟩
theorem ok_way_back (T : Txt K mg) : Ok P w K mg base 1 "way_back" ["ahead", "one", "other"] (sp_way_back K) := by
  obtain ⟨fd, F⟩ := T.d_way_back
  refine ⟨fd, F.ok sc_way_back (fun vs H Q E h => ?_) (fun cdv A outer s H vs Q E hr h => ?_), F.kp, F.bindsN fun _ _ _ _ _ _ us hl => match us, hl with | [_, _, _], _ => rfl⟩
  · obtain ⟨d, fa, one, e, N, R, good, rk, rfl, _⟩ := h
    rfl
  · obtain ⟨d, fa, one, e, N, R, good, rk, rfl, hd, hst, he, hrk, q⟩ := h
    have hu := hu_of hr
    refine ⟨_, PSs.nox (pss_cons (ps_set (i := 3) sc_way_back.nd rfl (by first | exact Or.inl rfl | exact Or.inr rfl) (pe_lst (pa_cons (pv 2) pa_nil)))
      (pss_cons (ps_while PassesOwn.never (pt_cmpR op_ne (pe_ix ix_list (pv 3) (pe_un un_neg pe_int) (fun _ _ => rfl)) (pv 1) (nomark _))
      (pss_one (ps_expr (pe_bm PySem.F.plainAttrs_list PySem.F.slot_list_append PySem.F.type_list_append mt_append (pv 3) (pa_cons (pe_dget hu (pv 0) (pe_ix ix_list (pv 3) (pe_un un_neg pe_int) (fun _ _ => rfl)) (fun _ _ => rfl)) pa_nil)))))
      (pss_one (ps_ret (RT.pe_tupRev rfl (by rfl) T.z_tuple (by rfl) T.z_reversed (pv 3)))))), ?_⟩
    refine ⟨_, rfl, by show 1 ≤ sizeLine; decide, fun l nl => ?_⟩
    have hld : d ≠ l := ne_of_none hd nl
    have s1 := same_new (o := .lst [V.int (e : Int)]) nl
    have el1 : upd H l (.lst [V.int (e : Int)]) l = some (.lst (nV [e])) := upd_same
    generalize upd H l (.lst [V.int (e : Int)]) = H1 at *
    obtain ⟨W, hW⟩ : ∃ W : Nat → L2.St → Hp → Prop, W = fun m σ H' => ∃ (c : List Nat) (x : Nat), σ = [some (.ref d), some (.int (one : Int)), some (.int (e : Int)), some (.ref l)] ∧ Same H H' ∧ H' l = some (.lst (nV c)) ∧ Bk (fun x y => R x y ∧ rk x < rk y) e x c ∧ m = rk x ∧ c.length + rk x ≤ rk e + 1 ∧ good x ∧ ∀ z ∈ c, good z := ⟨_, rfl⟩
    refine ⟨W, ⟨rk e, by rw [hW]; exact ⟨[e], e, rfl, s1, el1, Bk.start e, rfl, by show 1 + rk e ≤ _; omega, he, fun z hz => by rw [List.mem_singleton.mp hz]; exact he⟩⟩, fun m σ H3 hw => ?_⟩
    have hw2 := hw
    rw [hW] at hw2
    obtain ⟨c, x, rfl, s3, el3, bk, rfl, hlen, hg, hall⟩ := hw2
    refine ⟨_, rfl, 1, rfl, l, _, _, _, rfl, rfl, sqL el3, at_last bk.last, _, rfl, rfl, _, rfl, ?_⟩
    rw [ne_bl]
    refine ite2 (fun e9 => ?_) (fun e9 => ?_)
    · have hxs : x ≠ one := by simpa using e9
      obtain ⟨y, y1, y2, y3, y4⟩ := hst x hg hxs
      refine ⟨fun σ' H' => ∃ m', m' < rk x ∧ W m' σ' H', fun σ' H' h => h, ?_⟩
      refine ⟨_, rfl, .inl ⟨rfl, _, sqL el3⟩, _, rfl, _, rfl, 1, rfl, l, _, _, _, rfl, rfl, sqL el3, at_last bk.last, d, _, rfl, dgS (s3 _ _ hd) y1, l, _, _, rfl, rfl, el3, by rw [nV_len]; exact szl (by omega), ?_⟩
      refine ⟨rk y, y4, ?_⟩
      rw [hW]
      refine ⟨c ++ [y], y, rfl, same_mut s3 nl, by rw [upd_same, nV_app]; rfl, bk.add ⟨y2, y4⟩, rfl, by rw [List.length_append]; show c.length + 1 + rk y ≤ _; omega, y3, fun z hz => ?_⟩
      rcases List.mem_append.mp hz with z1 | z1
      · exact hall z z1
      · rw [List.mem_singleton.mp z1]
        exact y3
    · have hxs : x = one := by simpa using e9
      subst hxs
      obtain ⟨r1, r2, r3⟩ := bk.rev
      refine ⟨_, rfl, l, _, rfl, sqL el3, fun p np => q _ p c.reverse (s3.trans (same_new np)) ?_ r1 r2 r3 (fun z hz => hall z (List.mem_reverse.mp hz))⟩
      rw [← nV_rev]
      exact sqT upd_same
theorem rk_mono {rk : Nat → Nat} {R : Nat → Nat → Prop} {w : List Nat} (h : Chn (fun x y => R x y ∧ rk x < rk y) w) : ∀ {i j x y : Nat}, i < j → w[i]? = some x → w[j]? = some y → rk x < rk y := by
  intro i j x y hij hx hy
  induction j generalizing y with
  | zero => omega
  | succ j ih =>
    have hl := (List.getElem?_eq_some_iff.mp hy).1
    have ez : w[j]? = some (w[j]'(by omega)) := List.getElem?_eq_getElem _
    have q := (h j _ y ez hy).2
    by_cases e : i = j
    · subst e
      rw [hx] at ez
      cases ez
      exact q
    · exact Nat.lt_trans (ih (by omega) ez) q
theorem rk_nodup {rk : Nat → Nat} {R : Nat → Nat → Prop} {w : List Nat} (h : Chn (fun x y => R x y ∧ rk x < rk y) w) : w.Nodup := by
  refine List.pairwise_iff_getElem.mpr fun i j hi hj hij e => ?_
  have := rk_mono h hij (List.getElem?_eq_getElem hi) (List.getElem?_eq_getElem hj)
  rw [e] at this
  exact Nat.lt_irrefl _ this
/-! ### the least beats -/
structure LI (G : Nat → List Edge) (wt : Nat → Bool) (o : Int) (n one : Nat) (fb fa : List (Nat × Int)) : Prop where
  ndb : (ks fb).Nodup
  nda : (ks fa).Nodup
  sa : ∀ x ∈ ks fa, x < n
  one0 : lk fb one = some 0
  rc : ∀ x ∈ ks fb, Rc G wt o one x
  val : ∀ (i x : Nat) (v : Int), fb[i]? = some (x, v) → 0 ≤ v ∧ v ≤ 5 * (i : Int)
  ah : ∀ x ∈ ks fb, x ≠ one → ∃ (y : Nat) (v u : Int), lk fa x = some (y : Int) ∧ x ∈ bh G wt o y ∧ lk fb x = some v ∧ lk fb y = some u ∧ u + (ew G y x).1 ≤ v
theorem pu_get {f : List (Nat × Int)} (nd : (ks f).Nodup) {x : Nat} {v : Int} : ∀ {i y : Nat} {w : Int}, (pu f x v)[i]? = some (y, w) → (y ≠ x ∧ f[i]? = some (y, w)) ∨ (y = x ∧ w = v ∧ ((∃ w', f[i]? = some (x, w')) ∨ (x ∉ ks f ∧ i = f.length))) := by
  induction f with
  | nil =>
    intro i y w h
    match i, h with
    | 0, h =>
      cases h
      exact .inr ⟨rfl, rfl, .inr ⟨fun z => (by cases z), rfl⟩⟩
    | i + 1, h => simp [pu] at h
  | cons p r ih =>
    intro i y w h
    obtain ⟨n1, n2⟩ := List.nodup_cons.mp nd
    change (if p.1 = x then (x, v) :: r else p :: pu r x v)[i]? = some (y, w) at h
    by_cases e : p.1 = x
    · rw [if_pos e] at h
      match i, h with
      | 0, h =>
        cases h
        exact .inr ⟨rfl, rfl, .inl ⟨p.2, by rw [← e]; rfl⟩⟩
      | i + 1, h =>
        have h2 : r[i]? = some (y, w) := by simpa using h
        refine .inl ⟨fun z => n1 ?_, by simpa using h2⟩
        show p.1 ∈ r.map (·.1)
        rw [e, ← z]
        exact List.mem_map.mpr ⟨_, List.mem_of_getElem? h2, rfl⟩
    · rw [if_neg e] at h
      match i, h with
      | 0, h =>
        have h2 : p = (y, w) := Option.some.inj h
        exact .inl ⟨fun z => e (by rw [h2]; exact z), by rw [h2]; rfl⟩
      | i + 1, h =>
        rcases ih n2 (i := i) (by simpa using h) with ⟨a, b⟩ | ⟨a, b, c⟩
        · exact .inl ⟨a, by simpa using b⟩
        · refine .inr ⟨a, b, ?_⟩
          rcases c with ⟨w', c⟩ | ⟨c1, c2⟩
          · exact .inl ⟨w', by simpa using c⟩
          · refine .inr ⟨fun z => ?_, by rw [List.length_cons, c2]⟩
            rcases List.mem_cons.mp z with z | z
            · exact e z.symm
            · exact c1 z
theorem ks_pu_mem {f : List (Nat × Int)} {x z : Nat} {v : Int} : z ∈ ks (pu f x v) ↔ z = x ∨ z ∈ ks f := by
  rw [ks_pu]
  split
  · rename_i h
    exact ⟨fun z => .inr z, fun z => z.elim (fun e => e ▸ h) id⟩
  · rw [List.mem_append, List.mem_singleton]
    exact Or.comm
theorem ks_pu_nd {f : List (Nat × Int)} (nd : (ks f).Nodup) (x : Nat) (v : Int) : (ks (pu f x v)).Nodup := by
  rw [ks_pu]
  split
  · exact nd
  · rename_i h
    refine List.nodup_append.mpr ⟨nd, by simp, fun a ha b hb e => ?_⟩
    rw [List.mem_singleton.mp hb] at e
    exact h (e ▸ ha)
def phi (n : Nat) (f : List (Nat × Int)) : Nat := ((List.range n).map fun x => match lk f x with | some v => v.toNat | none => 1000).sum
theorem sum_upd {n : Nat} {g h : Nat → Nat} {y : Nat} (hy : y < n) (lt : g y < h y) (eq : ∀ x, x ≠ y → g x = h x) : ((List.range n).map g).sum < ((List.range n).map h).sum := by
  induction n with
  | zero => omega
  | succ n ih =>
    rw [List.range_succ, List.map_append, List.map_append, List.sum_append, List.sum_append]
    show _ + (g n + 0) < _ + (h n + 0)
    by_cases e : y = n
    · subst e
      have : ((List.range y).map g) = ((List.range y).map h) := List.map_congr_left (fun a ha => eq a (fun z => by rw [z] at ha; exact Nat.lt_irrefl _ (List.mem_range.mp ha)))
      rw [this]
      omega
    · have := ih (by omega)
      have := eq n (fun z => e z.symm)
      omega
theorem lk_get {f : List (Nat × Int)} {x : Nat} {v : Int} (h : lk f x = some v) : ∃ i : Nat, f[i]? = some (x, v) := by
  obtain ⟨i, hi, e⟩ := List.mem_iff_getElem.mp (lk_mem h)
  exact ⟨i, by rw [List.getElem?_eq_getElem hi, e]⟩
theorem ew_bd {G : Nat → List Edge} {wt : Nat → Bool} {o : Int} {n x y : Nat} (g : GraOk G n) (hx : x < n) (h : y ∈ bh G wt o x) : 2 ≤ (ew G x y).1 ∧ (ew G x y).1 ≤ (ew G x y).2 ∧ (ew G x y).2 ≤ 5 := by
  obtain ⟨_, ⟨e, e1, e2⟩, _⟩ := bh_mem.mp h
  rw [← e2, ew_eq g.toGrOk hx e1]
  exact (g.ed x hx e e1).2
theorem LI.relax {G : Nat → List Edge} {wt : Nat → Bool} {o : Int} {n one x y : Nat} {fb fa : List (Nat × Int)} {u : Int} (g : GraOk G n) (h1 : one < n) (h : LI G wt o n one fb fa) (hx : lk fb x = some u) (hy : y ∈ bh G wt o x) (hc : lk fb y = none ∨ ∃ v, lk fb y = some v ∧ u + (ew G x y).1 < v) :
    LI G wt o n one (pu fb y (u + (ew G x y).1)) (pu fa y (x : Int)) ∧ phi n (pu fb y (u + (ew G x y).1)) < phi n fb := by
  have hxr := h.rc x (lk_ks hx)
  have hxn := Rc.lt g h1 hxr
  have hyn := bh_lt g hxn hy
  obtain ⟨w1, w2, w3⟩ := ew_bd g hxn hy
  obtain ⟨ix, eix⟩ := lk_get hx
  obtain ⟨u1, u2⟩ := h.val ix x u eix
  have ixl := (List.getElem?_eq_some_iff.mp eix).1
  have fl : fb.length ≤ n := by
    have := nd_len h.ndb (fun z hz => Rc.lt g h1 (h.rc z hz))
    rw [ks_len] at this
    exact this
  have n120 := g.n120
  generalize hew : (ew G x y).1 = wt9 at *
  have hyo : y ≠ one := by
    intro z
    subst z
    rcases hc with c | ⟨v, c1, c2⟩
    · rw [h.one0] at c; cases c
    · rw [h.one0] at c1; cases c1; omega
  have hxy : x ≠ y := by
    intro z
    subst z
    rcases hc with c | ⟨v, c1, c2⟩
    · rw [hx] at c; cases c
    · rw [hx] at c1; cases c1; omega
  refine ⟨⟨ks_pu_nd h.ndb _ _, ks_pu_nd h.nda _ _, ?_, ?_, ?_, ?_, ?_⟩, ?_⟩
  · intro z hz
    rcases ks_pu_mem.mp hz with e | e
    · rw [e]; exact hyn
    · exact h.sa z e
  · rw [lk_pu, if_neg (fun z => hyo z.symm)]
    exact h.one0
  · intro z hz
    rcases ks_pu_mem.mp hz with e | e
    · rw [e]; exact .step hxr hy
    · exact h.rc z e
  · intro i z v e
    rcases pu_get h.ndb e with ⟨a, b⟩ | ⟨a, b, c⟩
    · exact h.val i z v b
    · subst b
      rcases c with ⟨w', c⟩ | ⟨c1, c2⟩
      · have := h.val i y w' c
        have := lk_of h.ndb (List.mem_of_getElem? c)
        rcases hc with c9 | ⟨v9, c8, c9⟩
        · rw [this] at c9; cases c9
        · rw [this] at c8; cases c8; omega
      · omega
  · intro z hz hzo
    rcases ks_pu_mem.mp hz with e | e
    · subst e
      exact ⟨x, u + wt9, u, by rw [lk_pu, if_pos rfl], hy, by rw [lk_pu, if_pos rfl], by rw [lk_pu, if_neg hxy]; exact hx, by rw [hew]; exact Int.le_refl _⟩
    · by_cases ezy : z = y
      · subst ezy
        exact ⟨x, u + wt9, u, by rw [lk_pu, if_pos rfl], hy, by rw [lk_pu, if_pos rfl], by rw [lk_pu, if_neg hxy]; exact hx, by rw [hew]; exact Int.le_refl _⟩
      · obtain ⟨y9, v9, u9, a1, a2, a3, a4, a5⟩ := h.ah z e hzo
        by_cases e9 : y9 = y
        · subst e9
          refine ⟨y9, v9, u + wt9, by rw [lk_pu, if_neg ezy]; exact a1, a2, by rw [lk_pu, if_neg ezy]; exact a3, by rw [lk_pu, if_pos rfl], ?_⟩
          rcases hc with c | ⟨v8, c1, c2⟩
          · rw [a4] at c; cases c
          · rw [a4] at c1; cases c1; omega
        · exact ⟨y9, v9, u9, by rw [lk_pu, if_neg ezy]; exact a1, a2, by rw [lk_pu, if_neg ezy]; exact a3, by rw [lk_pu, if_neg e9]; exact a4, a5⟩
  · unfold phi
    refine sum_upd hyn ?_ ?_
    · rw [lk_pu, if_pos rfl]
      show (u + wt9).toNat < _
      rcases hc with c | ⟨v, c1, c2⟩
      · rw [c]
        show _ < 1000
        omega
      · rw [c1]
        show _ < v.toNat
        omega
    · intro z hz
      rw [lk_pu, if_neg hz]
theorem dN_keys (f : List (Nat × Int)) : ((dN f).map fun (kv : Key × V) => kV kv.1) = nV (ks f) := by
  unfold dN ks nV
  rw [List.map_map, List.map_map]
  rfl
theorem take_mem {l : List Nat} {j x z : Nat} (e : l[j]? = some x) : z ∈ l.take (j + 1) ↔ z ∈ l.take j ∨ z = x := by
  rw [List.take_add_one, e, List.mem_append]
  exact or_congr Iff.rfl (by simp)
def Rel (G : Nat → List Edge) (fb : List (Nat × Int)) (x y : Nat) : Prop := ∃ u v, lk fb x = some u ∧ lk fb y = some v ∧ v ≤ u + (ew G x y).1
/-- the least beats found -/
structure LOk (G : Nat → List Edge) (wt : Nat → Bool) (o : Int) (n one : Nat) (fb fa : List (Nat × Int)) : Prop extends LI G wt o n one fb fa where
  rel : ∀ x ∈ ks fb, ∀ y ∈ bh G wt o x, Rel G fb x y
theorem LI.start {G : Nat → List Edge} {wt : Nat → Bool} {o : Int} {n one : Nat} : LI G wt o n one [(one, 0)] [] :=
  ⟨by simp [ks], by simp [ks], fun x h => (by cases h), by simp [lk], fun x h => (by rw [List.mem_singleton.mp h]; exact .refl), fun i x v e => (by
    match i, e with
    | 0, e => cases e; omega
    | i + 1, e => simp at e), fun x h e => absurd (List.mem_singleton.mp h) e⟩
def sp_Seeker_least (K : PySem.W.Frag) : Sp := fun vs H Q _ => ∃ (a : Addr) (n : Nat) (G : Nat → List Edge) (wt : Nat → Bool) (one other : Nat) (f : List (Nat × Int)) (kp : List Nat), vs = [.ref a] ∧ SeekF K H a n G wt one other f kp ∧ ∀ H' t db da fb fa, Same H H' → H' t = some (.tup [.ref db, .ref da]) → H' db = some (.dK (dN fb)) → H' da = some (.dK (dN fa)) → LOk G wt (other : Int) n one fb fa → Q (.ref t) H'
theorem sc_Seeker_least : FnScope ["self", "beats", "ahead", "going", "row", "following", "pair", "total"] ["self"] (defScope (inClass (topS 56) 4)) := ⟨rfl, rfl, rfl, by decide +kernel, rfl, by decide +kernel, by decide +kernel⟩
theorem ok_Seeker_least (T : Txt K mg) : OkM P w K mg base 2 "least" ["self"] (sp_Seeker_least K) := by
  obtain ⟨fd, F⟩ := T.d_Seeker_least
  obtain ⟨fd_Seeker_behind, G_Seeker_behind, kp_Seeker_behind, b_Seeker_behind⟩ := ok_Seeker_behind (P := P) (w := w) (base := base) T
  obtain ⟨tLEAST, hLEAST⟩ := T.n_LEAST
  refine ⟨fd, F.ok sc_Seeker_least (fun vs H Q E h => ?_) (fun cdv A outer s H vs Q E hr h => ?_), F.kp, F.bindsN fun _ _ _ _ _ _ us hl => match us, hl with | [_], _ => rfl⟩
  · obtain ⟨a, n, G, wt, one, other, f, kp, rfl, _⟩ := h
    rfl
  · obtain ⟨a, n, G, wt, one, other, f, kp, rfl, hs, q⟩ := h
    have hu := hu_of hr
    refine ⟨_, PSs.nox (pss_cons (ps_set (i := 1) sc_Seeker_least.nd rfl (by first | exact Or.inl rfl | exact Or.inr rfl) (pe_disp (pps_cons (pe_fld (pv 0) rfl) pe_int pps_nil) (by rfl) (by rfl) (fun z => by cases z) (by decide)))
      (pss_cons (ps_set (i := 2) sc_Seeker_least.nd rfl (by first | exact Or.inl rfl | exact Or.inr rfl) pe_dnewK)
      (pss_cons (ps_set (i := 3) sc_Seeker_least.nd rfl (by first | exact Or.inl rfl | exact Or.inr rfl) pe_bl)
      (pss_cons (ps_while PassesOwn.never (pt_val (pv 3))
      (pss_cons (ps_set (i := 3) sc_Seeker_least.nd rfl (by first | exact Or.inl rfl | exact Or.inr rfl) pe_bl)
      (pss_one (ps_for PassesOwn.never rfl (pi_list (pe_callTy (call_list_dK rfl) (by rfl) T.z_list (by decide +kernel) (pa_cons (pv 1) pa_nil))) (pg_name (i := 4) sc_Seeker_least.nd rfl (by first | exact Or.inl rfl | exact Or.inr rfl))
      (pss_one (ps_for PassesOwn.never rfl (pi_list (pe_meth (pv 0) T.cl T.m_behind G_Seeker_behind hr b_Seeker_behind .nil pass0 (pa_cons (pv 4) pa_nil))) (pg_name (i := 5) sc_Seeker_least.nd rfl (by first | exact Or.inl rfl | exact Or.inr rfl))
      (pss_cons (ps_set (i := 6) sc_Seeker_least.nd rfl (by first | exact Or.inl rfl | exact Or.inr rfl) (pe_dget hu (pe_ix ix_list (pe_fld (pv 0) rfl) (pv 4) (fun _ _ => rfl)) (pv 5) (fun _ _ => rfl)))
      (pss_cons (ps_set (i := 7) sc_Seeker_least.nd rfl (by first | exact Or.inl rfl | exact Or.inr rfl) (pe_op op_add (pe_dget hu (pv 1) (pv 4) (fun _ _ => rfl)) (pe_ix ix_tup (pv 6) (pe_glob (v := .int 0) (by rfl) hLEAST ⟨_, rfl⟩) (fun _ _ => rfl))))
      (pss_one (ps_if (PW.pt (pw_or (pt_cmp (pc_dnotin hu (pv 5) (pv 1))) (pw_or1 (pt_cmpR op_lt (pv 7) (pe_dget hu (pv 1) (pv 5) (fun _ _ => rfl)) (nomark _)))))
      (pss_cons (ps_dput hu (pv 1) (pv 5) (pv 7) rfl)
      (pss_cons (ps_dput hu (pv 2) (pv 5) (pv 4) rfl)
      (pss_one (ps_set (i := 3) sc_Seeker_least.nd rfl (by first | exact Or.inl rfl | exact Or.inr rfl) pe_bl))))
      pss_nil))))))))))
      (pss_one (ps_ret (pe_tup (pa_cons (pv 1) (pa_cons (pv 2) pa_nil))))))))), ?_⟩
    obtain ⟨h0, dx, fs, md, kl, a1, a2, a3, a4, a5, a6, a7, a8, a9, a10, a11⟩ := id hs
    obtain ⟨dx2, fs2, st, wl, b1, b2, b3, b4, b5, b6, b7, b8, b9⟩ := id h0
    have g := h0.gra
    have n120 := g.n120
    obtain ⟨dx3, fs3, m3, m4⟩ := h0.meth (m := "behind") (by decide)
    refine fun db nb => ⟨_, rfl, a, _, dx, fs, _, rfl, same_new nb _ _ a1, T.cl, T.a_one, a2, upd_same, [((Sum.inl (one : Int) : Key), V.int 0)], rfl, by show 1 ≤ 15; decide, ?_⟩
    have sb := same_mut (o := .dK (mergeK [] [((Sum.inl (one : Int) : Key), V.int 0)])) (same_new (o := .dK []) nb) nb
    have eb : upd (upd H db (.dK [])) db (.dK (mergeK [] [((Sum.inl (one : Int) : Key), V.int 0)])) db = some (.dK (dN [(one, 0)])) := upd_same
    generalize upd (upd H db (.dK [])) db (.dK (mergeK [] [((Sum.inl (one : Int) : Key), V.int 0)])) = H1 at *
    refine fun da na => ?_
    have na0 := none_of sb na
    have hba : db ≠ da := ne_of_none eb na
    have s1 := sb.trans (same_new (o := .dK []) na)
    have eb1 : upd H1 da (.dK []) db = some (.dK (dN [(one, 0)])) := upd_at eb hba
    have ea1 : upd H1 da (.dK []) da = some (.dK (dN [])) := upd_same
    generalize upd H1 da (.dK []) = H2 at *
    obtain ⟨W, hW⟩ : ∃ W : Nat → L2.St → Hp → Prop, W = fun m σ H' => ∃ (fb fa : List (Nat × Int)) (gg : Bool) (x4 x5 x6 x7 : Option V), m = phi n fb + (if gg = true then 1 else 0) ∧ σ = [some (.ref a), some (.ref db), some (.ref da), some (.bl gg), x4, x5, x6, x7] ∧ Same H H' ∧ H' db = some (.dK (dN fb)) ∧ H' da = some (.dK (dN fa)) ∧ LI G wt (other : Int) n one fb fa ∧ (gg = false → LOk G wt (other : Int) n one fb fa) := ⟨_, rfl⟩
    refine ⟨W, ⟨phi n [(one, 0)] + 1, by rw [hW]; exact ⟨[(one, 0)], [], true, none, none, none, none, rfl, rfl, s1, eb1, ea1, LI.start, fun z => (by cases z)⟩⟩, fun m σ H3 hw => ?_⟩
    have hw2 := hw
    rw [hW] at hw2
    obtain ⟨fb, fa, gg, x4, x5, x6, x7, rfl, rfl, s3, eb3, ea3, li, lok⟩ := hw2
    cases gg with
    | false =>
      refine ⟨_, rfl, false, rfl, ?_⟩
      refine ⟨_, rfl, _, rfl, by show 2 ≤ sizeLine; decide, fun t nt => ?_⟩
      exact q _ t db da fb fa (s3.trans (same_new nt)) upd_same (same_new nt _ _ eb3) (same_new nt _ _ ea3) (lok rfl)
    | true =>
      refine ⟨_, rfl, true, rfl, fun σ' H' => ∃ m', m' < phi n fb + 1 ∧ W m' σ' H', fun σ' H' h => h, ?_⟩
      refine ⟨_, rfl, db, _, rfl, eb3, fun l nl => ?_⟩
      rw [dN_keys]
      have nl0 := none_of s3 nl
      have s4 := s3.trans (same_new (o := .lst (nV (ks fb))) nl)
      have el4 : upd H3 l (.lst (nV (ks fb))) l = some (.lst (nV (ks fb))) := upd_same
      have eb4 := upd_at (o := .lst (nV (ks fb))) eb3 (ne_of_none eb3 nl)
      have ea4 := upd_at (o := .lst (nV (ks fb))) ea3 (ne_of_none ea3 nl)
      generalize upd H3 l (.lst (nV (ks fb))) = H4 at *
      refine ⟨l, rfl, ⟨_, sqL el4⟩, for_it (walk_list (K := K) (a := l) (xs := nV (ks fb))) (fun j σ H' => ∃ (fb' fa' : List (Nat × Int)) (gg : Bool) (x4 x5 x6 x7 : Option V), σ = [some (.ref a), some (.ref db), some (.ref da), some (.bl gg), x4, x5, x6, x7] ∧ Same H H' ∧ H' db = some (.dK (dN fb')) ∧ H' da = some (.dK (dN fa')) ∧ H' l = some (.lst (nV (ks fb))) ∧ LI G wt (other : Int) n one fb' fa' ∧ (∀ z ∈ ks fb, z ∈ ks fb') ∧ (gg = false → fb' = fb ∧ ∀ x ∈ (ks fb).take j, ∀ y ∈ bh G wt (other : Int) x, Rel G fb x y) ∧ (gg = true → phi n fb' < phi n fb))
        ⟨fb, fa, false, x4, x5, x6, x7, rfl, s4, eb4, ea4, el4, li, fun _ h => h, fun _ => ⟨rfl, fun x hx => by simp at hx⟩, fun z => (by cases z)⟩ (fun j σ H' _ ⟨_, _, _, _, _, _, _, _, _, _, _, e, _⟩ => sqL e) ?_ ?_⟩
      · rintro j xv σ H5 H' hj ⟨fb', fa', gg, x4, x5, x6, x7, rfl, s5, eb5, ea5, el5, li5, sub5, gf5, gt5⟩ ⟨rfl, exv⟩
        obtain ⟨x, ex, rfl⟩ := nV_get exv
        have hx := List.mem_of_getElem? ex
        have hxn := Rc.lt g a9 (li.rc x hx)
        refine ⟨_, rfl, a, dx3, fs3, rfl, s5 _ _ m3, m4, _, rfl, a, x, n, G, wt, other, rfl, h0.same s5, hxn, fun H6 bl s6 nbl ebl => ?_⟩
        have hbd : bl ≠ db := fun z => by rw [z, eb5] at nbl; cases nbl
        have hbA : bl ≠ da := fun z => by rw [z, ea5] at nbl; cases nbl
        have hld : l ≠ db := ne_of el5 eb5 (fun z => by cases z)
        have hlA : l ≠ da := ne_of el5 ea5 (fun z => by cases z)
        refine ⟨bl, rfl, ⟨_, sqL ebl⟩, for_it (walk_list (K := K) (a := bl) (xs := nV (bh G wt (other : Int) x))) (fun j9 σ H' => ∃ (fb' fa' : List (Nat × Int)) (gg : Bool) (x5 x6 x7 : Option V), σ = [some (.ref a), some (.ref db), some (.ref da), some (.bl gg), some (.int (x : Int)), x5, x6, x7] ∧ Same H H' ∧ H' db = some (.dK (dN fb')) ∧ H' da = some (.dK (dN fa')) ∧ H' l = some (.lst (nV (ks fb))) ∧ H' bl = some (.lst (nV (bh G wt (other : Int) x))) ∧ LI G wt (other : Int) n one fb' fa' ∧ (∀ z ∈ ks fb, z ∈ ks fb') ∧ (gg = false → fb' = fb ∧ (∀ x ∈ (ks fb).take j, ∀ y ∈ bh G wt (other : Int) x, Rel G fb x y) ∧ ∀ y ∈ (bh G wt (other : Int) x).take j9, Rel G fb x y) ∧ (gg = true → phi n fb' < phi n fb))
          ⟨fb', fa', gg, x5, x6, x7, rfl, s5.trans s6, s6 _ _ eb5, s6 _ _ ea5, s6 _ _ el5, ebl, li5, sub5, fun z => ⟨(gf5 z).1, (gf5 z).2, fun y hy => by simp at hy⟩, gt5⟩ (fun j σ H' _ ⟨_, _, _, _, _, _, _, _, _, _, _, e, _⟩ => sqL e) ?_ ?_⟩
        · rintro j9 yv σ H7 H' hj9 ⟨fb', fa', gg, x5, x6, x7, rfl, s7, eb7, ea7, el7, ebl7, li7, sub7, gf7, gt7⟩ ⟨rfl, eyv⟩
          obtain ⟨y, ey, rfl⟩ := nV_get eyv
          have hy := List.mem_of_getElem? ey
          have hyn := bh_lt g hxn hy
          obtain ⟨ys, d9, t9, g1, g2, g3, g4⟩ := (b6.same s7).edge g.toGrOk hxn (bh_mem.mp hy).2.1
          obtain ⟨u, hu⟩ := lk_some (sub7 x hx)
          have len7 : fb'.length ≤ n := by
            have := nd_len li7.ndb (fun z hz => Rc.lt g a9 (li7.rc z hz))
            rw [ks_len] at this
            exact this
          have lenA7 : fa'.length ≤ n := by
            have := nd_len li7.nda li7.sa
            rw [ks_len] at this
            exact this
          refine ⟨_, rfl, a, _, dx2, fs2, _, rfl, s7 _ _ b1, T.cl, T.a_steps, b4, _, rfl, st, _, _, _, rfl, rfl, sqL g1, g2, _, rfl, d9, _, rfl, g3, ?_⟩
          refine ⟨_, rfl, _, rfl, db, _, rfl, dgS eb7 hu, _, rfl, t9, _, _, _, rfl, rfl, sqT g4, atI_nat (j := 0) rfl, _, _, rfl, rfl, ?_⟩
          by_cases hc : lk fb' y = none ∨ ∃ v, lk fb' y = some v ∧ u + (ew G x y).1 < v
          · obtain ⟨li8, ph⟩ := li7.relax g a9 hu hy hc
            refine ⟨_, rfl, _, rfl, db, _, rfl, dgN eb7 y, (fun rest => by
              rcases hc with c | ⟨v, c1, c2⟩
              · rw [c]
                exact ⟨true, rfl, rest⟩
              · rw [c1]
                exact ⟨false, rfl, _, rfl, _, rfl, _, rfl, db, _, rfl, dgS eb7 c1, _, _, rfl, rfl, true, congrArg V.bl (decide_eq_true c2), rest⟩) ?_⟩
            refine ⟨_, rfl, _, rfl, _, rfl, db, _, rfl, dpN eb7 li7.ndb (by omega) y (u + (ew G x y).1), ?_⟩
            have s8 := same_mut (o := .dK (dN (pu fb' y (u + (ew G x y).1)))) s7 nb
            have eb8 : upd H' db (.dK (dN (pu fb' y (u + (ew G x y).1)))) db = some (.dK (dN (pu fb' y (u + (ew G x y).1)))) := upd_same
            have ea8 := upd_at (o := .dK (dN (pu fb' y (u + (ew G x y).1)))) ea7 hba.symm
            have el8 := upd_at (o := .dK (dN (pu fb' y (u + (ew G x y).1)))) el7 hld
            have ebl8 := upd_at (o := .dK (dN (pu fb' y (u + (ew G x y).1)))) ebl7 hbd
            generalize upd H' db (.dK (dN (pu fb' y (u + (ew G x y).1)))) = H8 at *
            refine ⟨_, rfl, _, rfl, _, rfl, da, _, rfl, dpN ea8 li7.nda (by omega) y (x : Int), ?_⟩
            refine ⟨_, _, true, _, _, _, rfl, same_mut s8 na0, upd_at eb8 hba, upd_same, upd_at el8 hlA, upd_at ebl8 hbA, li8, fun z hz => ks_pu_mem.mpr (.inr (sub7 z hz)), fun z => (by cases z), fun _ => ?_⟩
            cases gg with
            | true => exact Nat.lt_trans ph (gt7 rfl)
            | false => rw [(gf7 rfl).1] at ph ⊢; exact ph
          · cases qy : lk fb' y with
            | none => exact absurd (.inl qy) hc
            | some v =>
              have hv : v ≤ u + (ew G x y).1 := by
                by_cases z : u + (ew G x y).1 < v
                · exact absurd (.inr ⟨v, qy, z⟩) hc
                · omega
              have dg := dgN eb7 y
              rw [qy] at dg
              refine ⟨_, rfl, _, rfl, db, _, rfl, dg, false, rfl, _, rfl, _, rfl, _, rfl, db, _, rfl, dgS eb7 qy, _, _, rfl, rfl, false, congrArg V.bl (decide_eq_false (by omega)), ?_⟩
              refine ⟨fb', fa', gg, _, _, _, rfl, s7, eb7, ea7, el7, ebl7, li7, sub7, fun z => ⟨(gf7 z).1, (gf7 z).2.1, fun w hw => ?_⟩, gt7⟩
              rcases (take_mem ey).mp hw with e | e
              · exact (gf7 z).2.2 w e
              · rw [e, ← (gf7 z).1]
                exact ⟨u, v, hu, qy, hv⟩
        · rintro σ H' ⟨fb', fa', gg, x5, x6, x7, rfl, s7, eb7, ea7, el7, ebl7, li7, sub7, gf7, gt7⟩
          rw [nV_len, take_all] at gf7
          refine ⟨fb', fa', gg, _, x5, x6, x7, rfl, s7, eb7, ea7, el7, li7, sub7, fun z => ⟨(gf7 z).1, fun w hw => ?_⟩, gt7⟩
          rcases (take_mem ex).mp hw with e | e
          · exact (gf7 z).2.1 w e
          · rw [e]
            exact (gf7 z).2.2
      · rintro σ H' ⟨fb', fa', gg, x4, x5, x6, x7, rfl, s5, eb5, ea5, el5, li5, sub5, gf5, gt5⟩
        rw [nV_len, take_all] at gf5
        refine ⟨phi n fb' + (if gg = true then 1 else 0), ?_, ?_⟩
        · cases gg with
          | true => have := gt5 rfl; show phi n fb' + 1 < _; omega
          | false => rw [(gf5 rfl).1]; exact Nat.lt_succ_self _
        · rw [hW]
          refine ⟨fb', fa', gg, x4, x5, x6, x7, rfl, rfl, s5, eb5, ea5, li5, fun z => ⟨li5, ?_⟩⟩
          rw [(gf5 z).1]
          exact (gf5 z).2
end
end B65

end

section
set_option Elab.async false
set_option linter.all false
set_option maxRecDepth 100000
set_option maxHeartbeats 1000000
namespace B65
open PySem PySem.Spec PyProof.Rows L2
section
variable {P : Program} {w : World} {K : PySem.W.Frag} {mg : Str → Option Value} {base : Heap}
theorem wsum_tel {G : Nat → List Edge} {k : Nat} {val : Nat → Int} : ∀ {w : List Nat} {a b : Nat}, Chn (fun x y => val y = val x + pk k (ew G x y)) w → w[0]? = some a → w.getLast? = some b → wsum G k w = val b - val a
  | [x], a, b, _, h1, h2 => by
    have e1 : x = a := Option.some.inj h1
    have e2 : x = b := Option.some.inj h2
    subst e1
    subst e2
    show (0 : Int) = _
    omega
  | x :: y :: r, a, b, h, h1, h2 => by
    cases h1
    have q := wsum_tel (w := y :: r) (a := y) (b := b) (fun i p q e1 e2 => h (i + 1) p q (by simpa using e1) (by simpa using e2)) rfl (by rw [List.getLast?_cons_cons] at h2; exact h2)
    have e : wsum G k (x :: y :: r) = pk k (ew G x y) + wsum G k (y :: r) := by
      unfold wsum wsOf
      rw [List.drop_succ_cons, List.drop_zero, List.zipWith_cons_cons, List.sum_cons]
      rfl
    have := h 0 x y rfl rfl
    rw [e, q]
    omega
def gv (f : List (Nat × Int)) (x : Nat) : Int := (lk f x).getD 0
theorem gv_some {f : List (Nat × Int)} {x : Nat} {v : Int} (h : lk f x = some v) : gv f x = v := by unfold gv; rw [h]; rfl
def lowPs (n : Nat) (fb : List (Nat × Int)) : List Price := (List.range n).map fun i => match lk fb i with | some v => .int v | none => .no
theorem lowPs_at {n : Nat} {fb : List (Nat × Int)} {i : Nat} (h : i < n) : (lowPs n fb)[i]? = some (match lk fb i with | some v => .int v | none => .no) := by
  unfold lowPs
  rw [List.getElem?_map, List.getElem?_range h]
  rfl
theorem inE_bh {G : Nat → List Edge} {wt : Nat → Bool} {other i : Nat} {e : Edge} (he : e ∈ G i) (hw : wt e.1 = false) (hi : i ≠ other) : e.1 ∈ bh G wt (other : Int) i := bh_mem.mpr ⟨by omega, ⟨e, he, rfl⟩, hw⟩
theorem low_ok {G : Nat → List Edge} {wt : Nat → Bool} {n one other : Nat} {fb fa : List (Nat × Int)} {w : List Nat} {B : Int} (g : GraOk G n) (h1 : one < n) (ho : other < n) (ne : one ≠ other) (lo : LOk G wt (other : Int) n one fb fa) (hB : lk fb other = some B)
    (w0 : w[0]? = some one) (wl : w.getLast? = some other) (wc : Chn (fun x y => (y ∈ bh G wt (other : Int) x ∧ gv fb y = gv fb x + pk 0 (ew G x y)) ∧ (gv fb x).toNat < (gv fb y).toNat) w) (wg : ∀ x ∈ w, x ∈ ks fb) : PaperOk G wt n one other 0 B w (lowPs n fb) := by
  have n120 := g.n120
  have lt : ∀ x ∈ w, x < n := fun x hx => Rc.lt g h1 (lo.rc x (wg x hx))
  have len := nd_len (rk_nodup (rk := fun x => (gv fb x).toNat) wc) lt
  refine ⟨by unfold lowPs; rw [List.length_map, List.length_range], WayOk.mk2 (by omega) lt (wc.mono fun _ _ h => h.1.1) w0 wl ne, ?_, ?_, ?_, fun i hi p ep => ?_⟩
  · rw [wsum_tel (wc.mono fun _ _ h => h.1.2) w0 wl, gv_some lo.one0, gv_some hB]
    omega
  · rw [lowPs_at h1, lo.one0]
  · rw [lowPs_at ho, hB]
  · rw [lowPs_at hi] at ep
    cases q : lk fb i with
    | none =>
      rw [q] at ep
      cases ep
      trivial
    | some v =>
      rw [q] at ep
      cases ep
      by_cases e : i = other
      · exact .inl e
      · refine .inr fun ed hed hw => ?_
        have b := inE_bh hed hw e
        obtain ⟨u, v2, r1, r2, r3⟩ := lo.rel i (lk_ks q) ed.1 b
        rw [q] at r1
        cases r1
        refine ⟨.int v2, ?_, ?_⟩
        · rw [lowPs_at (g.ed i hi ed hed).1, r2]
        · rw [ew_eq g.toGrOk hi hed] at r3
          exact r3
theorem LOk.step {G : Nat → List Edge} {wt : Nat → Bool} {o : Int} {n one : Nat} {fb fa : List (Nat × Int)} (g : GraOk G n) (h1 : one < n) (lo : LOk G wt o n one fb fa) {x : Nat} (hx : x ∈ ks fb) (hxo : x ≠ one) : ∃ y : Nat, lk fa x = some (y : Int) ∧ (x ∈ bh G wt o y ∧ gv fb x = gv fb y + pk 0 (ew G y x)) ∧ y ∈ ks fb ∧ (gv fb y).toNat < (gv fb x).toNat := by
  obtain ⟨y, v, u, a1, a2, a3, a4, a5⟩ := lo.ah x hx hxo
  have hy := lk_ks a4
  obtain ⟨u2, v2, r1, r2, r3⟩ := lo.rel y hy x a2
  rw [a4] at r1
  cases r1
  rw [a3] at r2
  cases r2
  obtain ⟨w1, w2, w3⟩ := ew_bd g (Rc.lt g h1 (lo.rc y hy)) a2
  obtain ⟨i, ei⟩ := lk_get a4
  have := lo.val i y u ei
  refine ⟨y, a1, ⟨a2, ?_⟩, hy, ?_⟩
  · rw [gv_some a3, gv_some a4]
    show v = u + (ew G y x).1
    omega
  · rw [gv_some a3, gv_some a4]
    omega
theorem LOk.all {G : Nat → List Edge} {wt : Nat → Bool} {o : Int} {n one : Nat} {fb fa : List (Nat × Int)} (lo : LOk G wt o n one fb fa) {x : Nat} (h : Rc G wt o one x) : x ∈ ks fb := by
  induction h with
  | refl => exact lk_ks lo.one0
  | step _ h ih =>
    obtain ⟨u, v, r1, r2, r3⟩ := lo.rel _ ih _ h
    exact lk_ks r2
def sp_low_paper (K : PySem.W.Frag) : Sp := fun vs H Q _ => ∃ (p a : Addr) (rs : List Row) (G : Nat → List Edge) (wt : Nat → Bool) (one other : Nat) (f : List (Nat × Int)) (kp : List Nat), vs = [.ref p, .ref a] ∧ ProgAt H p rs ∧ SeekF K H a rs.length G wt one other f kp ∧ one ≠ other ∧ Rc G wt (other : Int) one other ∧ ∀ H' t B w ps, Same H H' → PaperAt K H' t B w ps → PaperOk G wt rs.length one other 0 B w ps → Q (.ref t) H'
theorem sc_low_paper : FnScope ["program", "seeker", "beats", "ahead", "prices", "row"] ["program", "seeker"] (defScope (topS 59)) := ⟨rfl, rfl, rfl, by decide +kernel, rfl, by decide +kernel, by decide +kernel⟩
theorem ok_low_paper (T : Txt K mg) : Ok P w K mg base 3 "low_paper" ["program", "seeker"] (sp_low_paper K) := by
  obtain ⟨fd, F⟩ := T.d_low_paper
  obtain ⟨fd_Seeker_least, G_Seeker_least, kp_Seeker_least, b_Seeker_least⟩ := ok_Seeker_least (P := P) (w := w) (base := base) T
  obtain ⟨fd_way_back, G_way_back, kp_way_back, b_way_back⟩ := ok_way_back (P := P) (w := w) (base := base) T
  refine ⟨fd, F.ok sc_low_paper (fun vs H Q E h => ?_) (fun cdv A outer s H vs Q E hr h => ?_), F.kp, F.bindsN fun _ _ _ _ _ _ us hl => match us, hl with | [_, _], _ => rfl⟩
  · obtain ⟨p, a, rs, G, wt, one, other, f, kp, rfl, _⟩ := h
    rfl
  · obtain ⟨p, a, rs, G, wt, one, other, f, kp, rfl, hp, hs, hne, hrc, q⟩ := h
    have hu := hu_of hr
    refine ⟨_, PSs.nox (pss_cons (ps_asg (pe_meth0 (pv 1) T.cl T.m_least G_Seeker_least hr b_Seeker_least .nil pass0) (pg_tup rfl (pgs_cons (pg_name (i := 2) sc_low_paper.nd rfl (by first | exact Or.inl rfl | exact Or.inr rfl)) (pgs_cons (pg_name (i := 3) sc_low_paper.nd rfl (by first | exact Or.inl rfl | exact Or.inr rfl)) pgs_nil))))
      (pss_cons (ps_set (i := 4) sc_low_paper.nd rfl (by first | exact Or.inl rfl | exact Or.inr rfl) (pe_callTy call_tuple_of (by rfl) T.z_tuple (by decide +kernel) (pa_cons (pe_lc (own := [("row", 5)]) rfl sc_low_paper.nd (pi_range1 (by rfl) T.z_range (pa_cons (pe_callB call_len_seq (by rfl) T.z_len (by decide +kernel) (pa_cons (pv 0) pa_nil)) pa_nil)) (blkOk_by (N := ["program", "seeker", "beats", "ahead", "prices", "row"]) (sc := defScope (topS 59)) (by decide +kernel)) (fun _ _ _ _ _ => (pg_name (i := 5) sc_low_paper.nd rfl (by first | exact Or.inl rfl | exact Or.inr rfl))) (fun _ _ _ _ _ => pts_nil) (fun _ _ _ _ _ => (pe_dget2 hu (pv 2) (pv 5) pe_non ⟨rfl, rfl, rfl, rfl⟩))) pa_nil)))
      (pss_one (ps_ret (pe_tup (pa_cons (pe_dget hu (pv 2) (pe_fld (pv 1) rfl) (fun _ _ => rfl)) (pa_cons (pe_call G_way_back (hr.mono (by decide)) (by rfl) T.g_way_back kp_way_back b_way_back .nil pass0 (pa_cons (pv 3) (pa_cons (pe_fld (pv 1) rfl) (pa_cons (pe_fld (pv 1) rfl) pa_nil)))) (pa_cons (pv 4) pa_nil)))))))), ?_⟩
    obtain ⟨h0, dx, fs, md, kl, a1, a2, a3, a4, a5, a6, a7, a8, a9, a10, a11⟩ := id hs
    have g := h0.gra
    have n120 := g.n120
    have ho := Rc.lt g a9 hrc
    obtain ⟨dx3, fs3, m3, m4⟩ := h0.meth (m := "least") (by decide)
    refine ⟨_, rfl, a, dx3, fs3, rfl, m3, m4, a, rs.length, G, wt, one, other, f, kp, rfl, hs, fun H1 t db da fb fa s1 et eb ea lo => ?_⟩
    refine ⟨t, _, rfl, sqT et, rfl, _, _, rfl, _, _, rfl, rfl, ?_⟩
    obtain ⟨xs, w1, w2, w3⟩ := (hp.same s1).walk
    refine ⟨_, rfl, p, _, rfl, .inr (sqT w1), _, rfl, by omega, by omega, fun D nD => ?_⟩
    refine lc_st walk_rng (fun i acc H' => Same H1 H' ∧ acc.length = i ∧ ∀ j v, acc[j]? = some v → v = (((lk fb j).map V.int).getD .non)) ⟨same_new nD, rfl, fun j v e => by simp at e⟩ (fun i acc _ _ H' _ ⟨s, e⟩ => ⟨same_mut s nD, e⟩) (fun _ _ _ _ _ => trivial) (fun i acc H' hi ⟨s, e, _⟩ => by rw [e]; exact szl (by omega)) (fun i x acc H2 H3 hi eD ⟨s, e, f⟩ ⟨eH, ex⟩ Qy Qn ky kn => ?_) (fun acc H' eD ⟨s, e, f⟩ => ?_)
    · subst eH ex
      refine ⟨rfl, _, rfl, db, rfl, .inl ⟨_, .inl (s _ _ eb)⟩, _, rfl, _, dgN (s _ _ eb) i, ?_⟩
      refine ky _ _ eD ⟨s, by rw [List.length_append, e]; rfl, fun j v ev => ?_⟩
      rcases snoc_get ev with e1 | ⟨e1, e2⟩
      · exact f j v e1
      · rw [e2, e1, e]
    · refine ⟨D, _, rfl, .inl ⟨sqL eD, fun tp ntp => ?_⟩⟩
      have s2 := (s1.trans s).trans (same_new (o := .tup acc) ntp)
      have s3 := s.trans (same_new (o := .tup acc) ntp)
      have etp : upd H' tp (.tup acc) tp = some (.tup acc) := upd_same
      generalize upd H' tp (.tup acc) = H3 at *
      obtain ⟨B, hB⟩ := lk_some (lo.all hrc)
      obtain ⟨io, eio⟩ := lk_get hB
      have vo := lo.val io other B eio
      have fl : fb.length ≤ rs.length := by
        have := nd_len lo.ndb (fun z hz => Rc.lt g a9 (lo.rc z hz))
        rw [ks_len] at this
        exact this
      have iol := (List.getElem?_eq_some_iff.mp eio).1
      refine ⟨_, rfl, _, rfl, a, _, dx, fs, _, rfl, s2 _ _ a1, T.cl, T.a_other, a3, db, _, rfl, dgS (s3 _ _ eb) hB, ?_⟩
      refine ⟨_, rfl, _, rfl, a, _, dx, fs, _, rfl, s2 _ _ a1, T.cl, T.a_one, a2, _, rfl, a, _, dx, fs, _, rfl, s2 _ _ a1, T.cl, T.a_other, a3, ?_⟩
      refine ⟨da, fa, one, other, 0, fun x y => y ∈ bh G wt (other : Int) x ∧ gv fb y = gv fb x + pk 0 (ew G x y), fun x => x ∈ ks fb, fun x => (gv fb x).toNat, rfl, s3 _ _ ea, fun x hx hxo => ?_, lk_ks hB, ?_, fun H4 tw w s4 etw ew0 ewl ewc ewg => ?_⟩
      · exact lo.step g a9 hx hxo
      · show (gv fb other).toNat ≤ 10000
        rw [gv_some hB]
        omega
      · refine ⟨_, rfl, by show 3 ≤ sizeLine; decide, fun tt ntt => ?_⟩
        have s5 := s4.trans (same_new (o := .tup [.int B, .ref tw, .ref tp]) ntt)
        refine q _ tt B w (lowPs rs.length fb) (s2.trans s5) ⟨tw, tp, sqT upd_same, same_t (same_new ntt) etw, acc, sqT (s5 _ _ etp), by unfold lowPs; rw [List.length_map, List.length_range, e]; omega, fun i v pr e1 e2 => ?_⟩ (low_ok g a9 ho hne lo hB ew0 ewl ewc ewg)
        have hv := f i v e1
        have hi : i < rs.length := by
          have := (List.getElem?_eq_some_iff.mp e1).1
          omega
        rw [lowPs_at hi] at e2
        cases q9 : lk fb i with
        | none =>
          rw [q9] at e2 hv
          cases e2
          exact hv
        | some u =>
          rw [q9] at e2 hv
          cases e2
          exact hv
end
end B65

end

section
set_option Elab.async false
set_option linter.all false
set_option maxRecDepth 100000
set_option maxHeartbeats 1000000
namespace B65
open PySem PySem.Spec PyProof.Rows L2
section
variable {P : Program} {w : World} {K : PySem.W.Frag} {mg : Str → Option Value} {base : Heap}
/-! ### rows in order -/
def LF (f : List (Nat × Int)) (kp : List Nat) (F : Nat → Int) : Prop := ks f = kp ∧ ∀ y ∈ kp, lk f y = some (F y)
theorem LF.put {f : List (Nat × Int)} {kp : List Nat} {F : Nat → Int} (h : LF f kp F) {y : Nat} (hy : y ∈ kp) (v : Int) {F' : Nat → Int} (h1 : F' y = v) (h2 : ∀ z, z ≠ y → F' z = F z) : LF (pu f y v) kp F' := by
  refine ⟨?_, fun z hz => ?_⟩
  · rw [ks_pu, h.1, if_pos hy]
  · rw [lk_pu]
    split
    · rename_i e
      rw [e, h1]
    · rename_i e
      rw [h2 z e]
      exact h.2 z hz
theorem LF.congr {f : List (Nat × Int)} {kp : List Nat} {F F' : Nat → Int} (h : LF f kp F) (e : ∀ y ∈ kp, F' y = F y) : LF f kp F' := ⟨h.1, fun y hy => by rw [e y hy]; exact h.2 y hy⟩
theorem countP_one {l : List Nat} (nd : l.Nodup) {x : Nat} (hx : x ∈ l) {p q : Nat → Bool} (h1 : ∀ z, z ≠ x → p z = q z) (h2 : q x = false) : l.countP p = l.countP q + (if p x = true then 1 else 0) := by
  induction l with
  | nil => cases hx
  | cons a r ih =>
    obtain ⟨n1, n2⟩ := List.nodup_cons.mp nd
    rw [List.countP_cons, List.countP_cons]
    by_cases e : a = x
    · subst e
      have : r.countP p = r.countP q := List.countP_congr (fun z hz => by rw [h1 z (fun e => n1 (e ▸ hz))])
      rw [this, h2]
      simp
    · rw [ih n2 ((List.mem_cons.mp hx).resolve_left (fun z => e z.symm)), h1 a e]
      omega
section
variable (G : Nat → List Edge) (wt : Nat → Bool) (o : Int) (kp : List Nat)
/-- the rows of kp out of which y comes, not in S -/
def rem (S : List Nat) (y : Nat) : Int := ((kp.countP (fun x => decide (y ∈ bh G wt o x) && !decide (x ∈ S)) : Nat) : Int)
def cn (S : List Nat) (y : Nat) : Int := ((S.countP (fun x => decide (y ∈ bh G wt o x)) : Nat) : Int)
structure KI (fd : List Nat) (F : Nat → Int) : Prop where
  nd : fd.Nodup
  sub : ∀ x ∈ fd, x ∈ kp
  zero : ∀ y ∈ kp, y ∈ fd ↔ F y = 0
  top : ∀ (j y : Nat), fd[j]? = some y → ∀ x ∈ kp, y ∈ bh G wt o x → ∃ i, i < j ∧ fd[i]? = some x
structure OrdOk (fd : List Nat) : Prop where
  nd : fd.Nodup
  mem : ∀ x, x ∈ fd ↔ x ∈ kp
  top : ∀ (j y : Nat), fd[j]? = some y → ∀ x ∈ kp, y ∈ bh G wt o x → ∃ i, i < j ∧ fd[i]? = some x
end
variable {G : Nat → List Edge} {wt : Nat → Bool} {o : Int} {kp : List Nat}
theorem rem_nil (y : Nat) : rem G wt o kp [] y = cn G wt o kp y := by
  unfold rem cn
  congr 1
  exact List.countP_congr (fun z _ => by simp)
theorem rem_snoc (nd : kp.Nodup) {S : List Nat} {x : Nat} (hx : x ∈ kp) (hs : x ∉ S) (y : Nat) : rem G wt o kp (S ++ [x]) y = rem G wt o kp S y - (if y ∈ bh G wt o x then 1 else 0) := by
  unfold rem
  have h := countP_one nd hx (p := fun z => decide (y ∈ bh G wt o z) && !decide (z ∈ S)) (q := fun z => decide (y ∈ bh G wt o z) && !decide (z ∈ S ++ [x])) (fun z hz => by
    have e : decide (z ∈ S ++ [x]) = decide (z ∈ S) := by simp [hz]
    show (decide (y ∈ bh G wt o z) && !decide (z ∈ S)) = (decide (y ∈ bh G wt o z) && !decide (z ∈ S ++ [x]))
    rw [e]) (by simp)
  by_cases hy : y ∈ bh G wt o x
  · rw [if_pos hy]
    rw [if_pos (by simp [hy, hs])] at h
    omega
  · rw [if_neg hy]
    rw [if_neg (by simp [hy])] at h
    omega
theorem rem_zero {S : List Nat} {y : Nat} : rem G wt o kp S y = 0 ↔ ∀ x ∈ kp, y ∈ bh G wt o x → x ∈ S := by
  unfold rem
  constructor
  · intro h x hx hy
    have h2 : kp.countP (fun x => decide (y ∈ bh G wt o x) && !decide (x ∈ S)) = 0 := by omega
    have h3 := List.countP_eq_zero.mp h2 x hx
    by_cases e : x ∈ S
    · exact e
    · exact absurd (by simp [hy, e]) h3
  · intro h
    have h2 : kp.countP (fun x => decide (y ∈ bh G wt o x) && !decide (x ∈ S)) = 0 := List.countP_eq_zero.mpr (fun x hx z => by
      have z2 : y ∈ bh G wt o x ∧ x ∉ S := by simpa using z
      exact z2.2 (h x hx z2.1))
    omega
theorem rem_nn (S : List Nat) (y : Nat) : 0 ≤ rem G wt o kp S y := Int.natCast_nonneg _
theorem KI.start (nd : kp.Nodup) : KI G wt o kp (kp.filter fun y => decide (rem G wt o kp [] y = 0)) (rem G wt o kp []) := by
  refine ⟨nd.filter _, fun x hx => (List.mem_filter.mp hx).1, fun y hy => ?_, fun j y e x hx hxy => ?_⟩
  · rw [List.mem_filter]
    exact ⟨fun z => of_decide_eq_true z.2, fun z => ⟨hy, decide_eq_true z⟩⟩
  · have hm := (List.mem_filter.mp (List.mem_of_getElem? e)).2
    exact absurd (rem_zero.mp (of_decide_eq_true hm) x hx hxy) (by simp)
/-- one y behind the k-th row counted down -/
theorem KI.down {fd : List Nat} {F F' : Nat → Int} (h : KI G wt o kp fd F) {y : Nat} (h1 : F' y = F y - 1) (h2 : ∀ z, z ≠ y → F' z = F z) (hp : 0 < F y) (hnz : F' y ≠ 0) : KI G wt o kp fd F' := by
  refine ⟨h.nd, h.sub, fun z hz => ?_, h.top⟩
  by_cases e : z = y
  · subst e
    exact ⟨fun m => absurd ((h.zero z hz).mp m) (by omega), fun m => absurd m hnz⟩
  · rw [h2 z e]
    exact h.zero z hz
theorem KI.put {fd : List Nat} {F F' : Nat → Int} (h : KI G wt o kp fd F) {y : Nat} (hy : y ∈ kp) (h1 : F' y = F y - 1) (h2 : ∀ z, z ≠ y → F' z = F z) (hz : F' y = 0) (hpre : ∀ x ∈ kp, y ∈ bh G wt o x → x ∈ fd) : KI G wt o kp (fd ++ [y]) F' := by
  have hn : y ∉ fd := fun m => by have := (h.zero y hy).mp m; omega
  refine ⟨?_, ?_, fun z hzk => ?_, fun j z e x hx hxz => ?_⟩
  · refine List.nodup_append.mpr ⟨h.nd, by simp, fun a ha b hb e => ?_⟩
    rw [List.mem_singleton.mp hb] at e
    exact hn (e ▸ ha)
  · intro z hz
    rcases List.mem_append.mp hz with e | e
    · exact h.sub z e
    · rw [List.mem_singleton.mp e]; exact hy
  · by_cases e : z = y
    · subst e
      exact ⟨fun _ => hz, fun _ => by simp⟩
    · rw [h2 z e, List.mem_append, List.mem_singleton]
      exact ⟨fun m => (h.zero z hzk).mp (m.resolve_right e), fun m => .inl ((h.zero z hzk).mpr m)⟩
  · rcases snoc_get e with e1 | ⟨e1, e2⟩
    · obtain ⟨i, i1, i2⟩ := h.top j z e1 x hx hxz
      exact ⟨i, i1, by rw [List.getElem?_append_left (List.getElem?_eq_some_iff.mp i2).1]; exact i2⟩
    · subst e2
      obtain ⟨i, hi, ei⟩ := List.mem_iff_getElem.mp (hpre x hx hxz)
      exact ⟨i, by omega, by rw [List.getElem?_append_left hi, List.getElem?_eq_getElem hi, ei]⟩
theorem not_nodup {l : List Nat} (h : ¬ l.Nodup) : ∃ (i j x : Nat), i < j ∧ l[i]? = some x ∧ l[j]? = some x := by
  refine Classical.byContradiction fun hn => h (List.pairwise_iff_getElem.mpr fun i j hi hj hij e => hn ⟨i, j, l[i], hij, List.getElem?_eq_getElem hi, by rw [List.getElem?_eq_getElem hj, e]⟩)
theorem KI.fin {fd : List Nat} {n : Nat} (h : KI G wt o kp fd (rem G wt o kp fd)) (lt : ∀ x ∈ kp, x < n) (nr : ∀ x ∈ kp, ¬ OnR G wt o x) : OrdOk G wt o kp fd := by
  refine ⟨h.nd, fun x => ⟨h.sub x, fun hx => ?_⟩, h.top⟩
  refine Classical.byContradiction fun hn => ?_
  have pred : ∀ y, y ∈ kp → y ∉ fd → ∃ z, z ∈ kp ∧ z ∉ fd ∧ y ∈ bh G wt o z := by
    intro y hy hyn
    have : ¬ ∀ z ∈ kp, y ∈ bh G wt o z → z ∈ fd := fun a => hyn ((h.zero y hy).mpr (rem_zero.mpr a))
    refine Classical.byContradiction fun a => this fun z hz hzy => Classical.byContradiction fun b => a ⟨z, hz, b, hzy⟩
  have long : ∀ m : Nat, ∃ (c : List Nat) (y : Nat), Bk (fun a b => b ∈ bh G wt o a) x y c ∧ c.length = m + 1 ∧ y ∈ kp ∧ y ∉ fd ∧ ∀ z ∈ c, z ∈ kp := by
    intro m
    induction m with
    | zero => exact ⟨[x], x, Bk.start x, rfl, hx, hn, fun z hz => by rw [List.mem_singleton.mp hz]; exact hx⟩
    | succ m ih =>
      obtain ⟨c, y, b1, b2, b3, b4, b5⟩ := ih
      obtain ⟨z, z1, z2, z3⟩ := pred y b3 b4
      refine ⟨c ++ [z], z, b1.add z3, by rw [List.length_append, b2]; rfl, z1, z2, fun v hv => ?_⟩
      rcases List.mem_append.mp hv with e | e
      · exact b5 v e
      · rw [List.mem_singleton.mp e]; exact z1
  obtain ⟨c, y, b1, b2, b3, b4, b5⟩ := long n
  obtain ⟨r1, r2, r3⟩ := b1.rev
  have : ¬ c.reverse.Nodup := fun nd => by
    have := nd_len nd (fun z hz => lt z (b5 z (List.mem_reverse.mp hz)))
    rw [List.length_reverse] at this
    omega
  obtain ⟨i, j, v, ij, e1, e2⟩ := not_nodup this
  have jl := (List.getElem?_eq_some_iff.mp e2).1
  have ez : c.reverse[j - 1]? = some (c.reverse[j - 1]'(by omega)) := List.getElem?_eq_getElem _
  have q := r3 (j - 1) _ v ez (by rw [show j - 1 + 1 = j by omega]; exact e2)
  exact nr v (b5 v (List.mem_reverse.mp (List.mem_of_getElem? e1))) (OnR.of (Rc.chn r3 e1 ez (by omega)) q)
theorem LF.new {f : List (Nat × Int)} {S : List Nat} {F : Nat → Int} (h : LF f S F) {y : Nat} (hy : y ∉ S) {v : Int} (hv : F y = v) : LF (pu f y v) (S ++ [y]) F := by
  refine ⟨?_, fun z hz => ?_⟩
  · rw [ks_pu, h.1, if_neg hy]
  · rw [lk_pu]
    split
    · rename_i e
      rw [e, hv]
    · rename_i e
      rcases List.mem_append.mp hz with m | m
      · exact h.2 z m
      · exact absurd (List.mem_singleton.mp m) e
theorem not_in_take {l : List Nat} (nd : l.Nodup) {i x : Nat} (e : l[i]? = some x) : x ∉ l.take i := by
  intro m
  obtain ⟨j, hj, ej⟩ := List.mem_iff_getElem.mp m
  have e2 : (l.take i)[j]? = some x := by rw [List.getElem?_eq_getElem hj, ej]
  rw [List.getElem?_take] at e2
  split at e2
  · have := nd_ix nd e2 e
    omega
  · cases e2
theorem KI.congr {fd : List Nat} {F F' : Nat → Int} (h : KI G wt o kp fd F) (e : ∀ y ∈ kp, F' y = F y) : KI G wt o kp fd F' := ⟨h.nd, h.sub, fun y hy => by rw [e y hy]; exact h.zero y hy, h.top⟩
theorem ifm {p q : Prop} [Decidable p] [Decidable q] (h : p ↔ q) : (if p then (1 : Int) else 0) = if q then 1 else 0 := by
  by_cases e : p
  · rw [if_pos e, if_pos (h.mp e)]
  · rw [if_neg e, if_neg (fun z => e (h.mpr z))]
def sp_Seeker_in_order (K : PySem.W.Frag) : Sp := fun vs H Q _ => ∃ (a : Addr) (n : Nat) (G : Nat → List Edge) (wt : Nat → Bool) (one other : Nat) (f : List (Nat × Int)) (kp : List Nat), vs = [.ref a] ∧ SeekF K H a n G wt one other f kp ∧ (∀ x ∈ kp, ¬ OnR G wt (other : Int) x) ∧ ∀ H' l od, Same H H' → H l = none → H' l = some (.lst (nV od)) → OrdOk G wt (other : Int) kp od → Q (.ref l) H'
theorem sc_Seeker_in_order : FnScope ["self", "left", "row", "following", "found", "at"] ["self"] (defScope (inClass (topS 56) 6)) := ⟨rfl, rfl, rfl, by decide +kernel, rfl, by decide +kernel, by decide +kernel⟩
theorem ok_Seeker_in_order (T : Txt K mg) : OkM P w K mg base 2 "in_order" ["self"] (sp_Seeker_in_order K) := by
  obtain ⟨fd, F⟩ := T.d_Seeker_in_order
  obtain ⟨fd_Seeker_behind, G_Seeker_behind, kp_Seeker_behind, b_Seeker_behind⟩ := ok_Seeker_behind (P := P) (w := w) (base := base) T
  refine ⟨fd, F.ok sc_Seeker_in_order (fun vs H Q E h => ?_) (fun cdv A outer s H vs Q E hr h => ?_), F.kp, F.bindsN fun _ _ _ _ _ _ us hl => match us, hl with | [_], _ => rfl⟩
  · obtain ⟨a, n, G, wt, one, other, f9, kp, rfl, _⟩ := h
    rfl
  · obtain ⟨a, n, G, wt, one, other, f9, kp, rfl, hs, hnr, q⟩ := h
    have hu := hu_of hr
    refine ⟨_, PSs.nox (pss_cons (ps_set (i := 1) sc_Seeker_in_order.nd rfl (by first | exact Or.inl rfl | exact Or.inr rfl) pe_dnewK)
      (pss_cons (ps_for PassesOwn.never rfl (pi_list (pe_fld (pv 0) rfl)) (pg_name (i := 2) sc_Seeker_in_order.nd rfl (by first | exact Or.inl rfl | exact Or.inr rfl))
      (pss_one (ps_dput hu (pv 1) (pv 2) pe_int rfl)))
      (pss_cons (ps_for PassesOwn.never rfl (pi_list (pe_fld (pv 0) rfl)) (pg_name (i := 2) sc_Seeker_in_order.nd rfl (by first | exact Or.inl rfl | exact Or.inr rfl))
      (pss_one (ps_for PassesOwn.never rfl (pi_list (pe_meth (pv 0) T.cl T.m_behind G_Seeker_behind hr b_Seeker_behind .nil pass0 (pa_cons (pv 2) pa_nil))) (pg_name (i := 3) sc_Seeker_in_order.nd rfl (by first | exact Or.inl rfl | exact Or.inr rfl))
      (pss_one (ps_if (pt_cmp (pc_din hu (pv 3) (pv 1)))
      (pss_one (ps_dput hu (pv 1) (pv 3) (pe_op op_add (pe_dget hu (pv 1) (pv 3) (fun _ _ => rfl)) pe_int) rfl))
      pss_nil)))))
      (pss_cons (ps_setLc (i := 4) (own := [("row", 2)]) rfl sc_Seeker_in_order.nd rfl rfl (sw_true rfl rfl rfl (by decide +kernel)) (pi_list (pe_fld (pv 0) rfl)) (blkOk_by (N := ["self", "left", "row", "following", "found", "at"]) (sc := defScope (inClass (topS 56) 6)) (by decide +kernel)) (fun _ _ _ _ _ => (pg_name (i := 2) sc_Seeker_in_order.nd rfl (by first | exact Or.inl rfl | exact Or.inr rfl))) (fun _ _ _ _ _ => (pts_one (pt_cmpR op_eq (pe_dget hu (pv 1) (pv 2) (fun _ _ => rfl)) pe_int (nomark _)))) (fun _ _ _ _ _ => (pv 2)))
      (pss_cons (ps_set (i := 5) sc_Seeker_in_order.nd rfl (by first | exact Or.inl rfl | exact Or.inr rfl) pe_int)
      (pss_cons (ps_while PassesOwn.never (pt_cmpR op_lt (pv 5) (pe_callB call_len_seq (by rfl) T.z_len (by decide +kernel) (pa_cons (pv 4) pa_nil)) (nomark _))
      (pss_cons (ps_for PassesOwn.never rfl (pi_list (pe_meth (pv 0) T.cl T.m_behind G_Seeker_behind hr b_Seeker_behind .nil pass0 (pa_cons (pe_ix ix_list (pv 4) (pv 5) (fun _ _ => rfl)) pa_nil))) (pg_name (i := 3) sc_Seeker_in_order.nd rfl (by first | exact Or.inl rfl | exact Or.inr rfl))
      (pss_one (ps_if (pt_cmp (pc_din hu (pv 3) (pv 1)))
      (pss_cons (ps_dput hu (pv 1) (pv 3) (pe_op op_sub (pe_dget hu (pv 1) (pv 3) (fun _ _ => rfl)) pe_int) rfl)
      (pss_one (ps_if (pt_cmpR op_eq (pe_dget hu (pv 1) (pv 3) (fun _ _ => rfl)) pe_int (nomark _))
      (pss_one (ps_expr (pe_bm PySem.F.plainAttrs_list PySem.F.slot_list_append PySem.F.type_list_append mt_append (pv 4) (pa_cons (pv 3) pa_nil))))
      pss_nil)))
      pss_nil)))
      (pss_one (ps_set (i := 5) sc_Seeker_in_order.nd rfl (by first | exact Or.inl rfl | exact Or.inr rfl) (pe_op op_add (pv 5) pe_int)))))
      (pss_one (ps_ret (pv 4))))))))), ?_⟩
    obtain ⟨h0, dx, fs, md, kl, a1, a2, a3, a4, a5, a6, a7, a8, a9, a10, a11⟩ := id hs
    have g := h0.gra
    have n120 := g.n120
    obtain ⟨dx3, fs3, m3, m4⟩ := h0.meth (m := "behind") (by decide)
    have klt : ∀ x ∈ kp, x < n := fun x hx => Rc.lt g a9 ((a11 x).mp hx).1
    have klen := nd_len a10 klt
    have lfl : ∀ {f : List (Nat × Int)} {S : List Nat} {F}, LF f S F → f.length = S.length := fun h => by rw [← ks_len, h.1]
    refine fun ld nd => ?_
    have s1 := same_new (o := .dK []) nd
    have el1 : upd H ld (.dK []) ld = some (.dK (dN [])) := upd_same
    generalize upd H ld (.dK []) = H1 at *
    refine ⟨_, rfl, a, _, dx, fs, _, rfl, s1 _ _ a1, T.cl, T.a_kept, a5, kl, rfl, ⟨_, sqL (s1 _ _ a7)⟩, for_it (walk_list (K := K) (a := kl) (xs := nV kp)) (fun i σ H' => ∃ (f : List (Nat × Int)) (x2 : Option V), σ = [some (.ref a), some (.ref ld), x2, none, none, none] ∧ Same H H' ∧ H' ld = some (.dK (dN f)) ∧ LF f (kp.take i) (fun _ => 0))
      ⟨[], none, rfl, s1, el1, rfl, fun y hy => by simp at hy⟩ (fun i σ H' _ ⟨_, _, _, s, _⟩ => sqL (s _ _ a7)) ?_ ?_⟩
    · rintro i xv σ H2 H' hi ⟨f, x2, rfl, s2, ef, lf⟩ ⟨rfl, exv⟩
      obtain ⟨x, ex, rfl⟩ := nV_get exv
      have et : kp.take (i + 1) = kp.take i ++ [x] := by rw [List.take_add_one, ex]; rfl
      have len := lfl lf
      rw [List.length_take] at len
      refine ⟨_, rfl, _, rfl, ld, _, rfl, dpN ef (by rw [lf.1]; exact a10.sublist (List.take_sublist _ _)) (by omega) x 0, ?_⟩
      refine ⟨pu f x 0, _, rfl, same_mut s2 nd, upd_same, ?_⟩
      rw [et]
      exact lf.new (not_in_take a10 ex) rfl
    rintro σ H2 ⟨f, x2, rfl, s2, ef, lf⟩
    rw [nV_len, take_all] at lf
    refine ⟨_, rfl, a, _, dx, fs, _, rfl, s2 _ _ a1, T.cl, T.a_kept, a5, kl, rfl, ⟨_, sqL (s2 _ _ a7)⟩, for_it (walk_list (K := K) (a := kl) (xs := nV kp)) (fun i σ H' => ∃ (f : List (Nat × Int)) (x2 x3 : Option V), σ = [some (.ref a), some (.ref ld), x2, x3, none, none] ∧ Same H H' ∧ H' ld = some (.dK (dN f)) ∧ LF f kp (cn G wt (other : Int) (kp.take i)))
      ⟨f, x2, none, rfl, s2, ef, lf.congr (fun y hy => rfl)⟩ (fun i σ H' _ ⟨_, _, _, _, s, _⟩ => sqL (s _ _ a7)) ?_ ?_⟩
    · clear lf ef f x2
      rintro i xv σ H3 H' hi ⟨f, x2, x3, rfl, s3, ef, lf⟩ ⟨rfl, exv⟩
      obtain ⟨x, ex, rfl⟩ := nV_get exv
      have et : kp.take (i + 1) = kp.take i ++ [x] := by rw [List.take_add_one, ex]; rfl
      have hx := List.mem_of_getElem? ex
      have hxn := klt x hx
      have bnd := bh_nodup (wt := wt) (o := (other : Int)) g hxn
      refine ⟨_, rfl, a, dx3, fs3, rfl, s3 _ _ m3, m4, _, rfl, a, x, n, G, wt, other, rfl, h0.same s3, hxn, fun H4 bl s4 nb eb => ?_⟩
      have hbd : bl ≠ ld := fun z => by rw [z, ef] at nb; cases nb
      refine ⟨bl, rfl, ⟨_, sqL eb⟩, for_it (walk_list (K := K) (a := bl) (xs := nV (bh G wt (other : Int) x))) (fun j σ H' => ∃ (f : List (Nat × Int)) (x3 : Option V), σ = [some (.ref a), some (.ref ld), some (.int (x : Int)), x3, none, none] ∧ Same H H' ∧ H' ld = some (.dK (dN f)) ∧ H' bl = some (.lst (nV (bh G wt (other : Int) x))) ∧ LF f kp (fun y => cn G wt (other : Int) (kp.take i) y + if y ∈ (bh G wt (other : Int) x).take j then 1 else 0))
        ⟨f, x3, rfl, s3.trans s4, s4 _ _ ef, eb, lf.congr (fun y hy => by simp)⟩ (fun i σ H' _ ⟨_, _, _, _, _, e, _⟩ => sqL e) ?_ ?_⟩
      · clear lf ef f x3
        rintro j yv σ H5 H' hj ⟨f, x3, rfl, s5, ef, eb5, lf⟩ ⟨rfl, eyv⟩
        obtain ⟨y, ey, rfl⟩ := nV_get eyv
        have nin := not_in_take bnd ey
        have oth : ∀ z, z ≠ y → (fun y => cn G wt (other : Int) (kp.take i) y + if y ∈ (bh G wt (other : Int) x).take (j + 1) then 1 else 0) z = (fun y => cn G wt (other : Int) (kp.take i) y + if y ∈ (bh G wt (other : Int) x).take j then 1 else 0) z := fun z hz => by
          show _ + _ = _ + _
          congr 1
          exact ifm ((take_mem ey).trans ⟨fun m => m.resolve_right hz, fun m => .inl m⟩)
        refine ⟨_, rfl, _, rfl, ld, _, rfl, dgN ef y, ?_⟩
        by_cases hy : y ∈ kp
        · have e1 : lk f y = some (cn G wt (other : Int) (kp.take i) y + if y ∈ (bh G wt (other : Int) x).take j then 1 else 0) := lf.2 y hy
          rw [if_neg nin] at e1
          rw [e1]
          have len := lfl lf
          refine ⟨true, rfl, _, rfl, _, rfl, ld, _, rfl, dgS ef e1, _, _, rfl, rfl, _, rfl, _, rfl, ld, _, rfl, dpN ef (by rw [lf.1]; exact a10) (by omega) y _, ?_⟩
          refine ⟨_, _, rfl, same_mut s5 nd, upd_same, upd_at eb5 hbd, lf.put hy _ ?_ oth⟩
          show _ + (if y ∈ (bh G wt (other : Int) x).take (j + 1) then (1 : Int) else 0) = _
          rw [if_pos ((take_mem ey).mpr (.inr rfl))]
          omega
        · have e1 : lk f y = none := lk_none.mpr (by rw [lf.1]; exact hy)
          rw [e1]
          exact ⟨false, rfl, f, _, rfl, s5, ef, eb5, lf.congr (fun z hz => oth z (fun e => hy (e ▸ hz)))⟩
      · rintro σ H' ⟨f, x3, rfl, s5, ef, eb5, lf⟩
        rw [nV_len, take_all] at lf
        refine ⟨f, _, x3, rfl, s5, ef, lf.congr (fun y hy => ?_)⟩
        rw [et]
        unfold cn
        rw [List.countP_append]
        by_cases e : y ∈ bh G wt (other : Int) x
        · rw [if_pos e]
          simp [e]
        · rw [if_neg e]
          simp [e]
    clear lf ef f x2
    rintro σ H3 ⟨f, x2, x3, rfl, s3, ef, lf⟩
    rw [nV_len, take_all] at lf
    have lf0 : LF f kp (rem G wt (other : Int) kp []) := lf.congr (fun y _ => rem_nil y)
    refine ⟨_, rfl, a, _, dx, fs, _, rfl, s3 _ _ a1, T.cl, T.a_kept, a5, kl, rfl, ⟨_, sqL (s3 _ _ a7)⟩, fun D nD => ?_⟩
    have nD0 := none_of s3 nD
    have hDl : D ≠ ld := fun z => by rw [z, ef] at nD; cases nD
    refine lc_st (walk_list (K := K) (a := kl) (xs := nV kp)) (fun j acc H' => Same H3 H' ∧ acc = nV ((kp.take j).filter fun y => decide (rem G wt (other : Int) kp [] y = 0))) ⟨same_new nD, rfl⟩ (fun j acc _ _ H' _ ⟨s, e⟩ => ⟨same_mut s nD, e⟩) (fun j acc H' _ ⟨s, e⟩ => sqL (s _ _ (s3 _ _ a7))) (fun j acc H' hj ⟨s, e⟩ => ?_) (fun j xv acc H4 H5 hj eD ⟨s, e⟩ ⟨eH, exv⟩ Qy Qn ky kn => ?_) (fun acc H' eD ⟨s, e⟩ => ?_)
    · rw [e, nV_len]
      have := List.length_filter_le (fun y => decide (rem G wt (other : Int) kp [] y = 0)) (kp.take j)
      rw [List.length_take] at this
      exact szl (by omega)
    · subst eH
      obtain ⟨x, ex, rfl⟩ := nV_get exv
      have e1 := lf0.2 x (List.mem_of_getElem? ex)
      have et : kp.take (j + 1) = kp.take j ++ [x] := by rw [List.take_add_one, ex]; rfl
      refine ⟨rfl, _, rfl, _, rfl, ld, _, rfl, dgS (s _ _ ef) e1, rfl, _, rfl, ?_⟩
      rw [bl_int]
      by_cases hz : rem G wt (other : Int) kp [] x = 0
      · rw [decide_eq_true hz]
        refine ⟨_, rfl, ky _ _ eD ⟨s, ?_⟩⟩
        rw [et, List.filter_append, e, nV_app]
        simp [hz]
        rfl
      · rw [decide_eq_false hz]
        refine kn _ eD ⟨s, ?_⟩
        rw [et, List.filter_append, e]
        simp [hz]
    rw [nV_len, take_all] at e
    subst e
    have ki0 : KI G wt (other : Int) kp _ _ := KI.start a10
    have s4 := s3.trans s
    have ef4 := s _ _ ef
    obtain ⟨W, hW⟩ : ∃ W : Nat → L2.St → Hp → Prop, W = fun m σ H' => ∃ (k : Nat) (fd : List Nat) (f : List (Nat × Int)) (x2 x3 : Option V), m = n - k ∧ σ = [some (.ref a), some (.ref ld), x2, x3, some (.ref D), some (.int (k : Int))] ∧ Same H H' ∧ H' ld = some (.dK (dN f)) ∧ H' D = some (.lst (nV fd)) ∧ k ≤ fd.length ∧ LF f kp (rem G wt (other : Int) kp (fd.take k)) ∧ KI G wt (other : Int) kp fd (rem G wt (other : Int) kp (fd.take k)) := ⟨_, rfl⟩
    refine ⟨W, ⟨n, by rw [hW]; exact ⟨0, _, f, _, x3, rfl, rfl, s4, ef4, eD, Nat.zero_le _, lf0, ki0⟩⟩, fun m σ H5 hw => ?_⟩
    clear ki0 lf0 lf ef4 ef eD s4 s x2 x3
    clear f
    have hw2 := hw
    rw [hW] at hw2
    obtain ⟨k, fd, f, x2, x3, rfl, rfl, s5, ef, eD, hk, lf, ki⟩ := hw2
    refine ⟨_, rfl, _, rfl, D, _, rfl, .inl (sqL eD), _, _, rfl, rfl, _, rfl, ite2 (fun e => ?_) (fun e => ?_)⟩
    · have hkl : k < fd.length := by
        have := of_decide_eq_true e
        rw [nV_len] at this
        omega
      have flen : fd.length ≤ n := nd_len ki.nd (fun z hz => klt z (ki.sub z hz))
      refine ⟨fun σ' H' => ∃ m', m' < n - k ∧ W m' σ' H', fun σ' H' h => h, ?_⟩
      have ex : fd[k]? = some fd[k] := List.getElem?_eq_getElem hkl
      have hx : fd[k] ∈ kp := ki.sub _ (List.getElem_mem _)
      have hxS := not_in_take ki.nd ex
      generalize fd[k] = x at *
      generalize hS : fd.take k = S at *
      have hxn := klt x hx
      have bnd := bh_nodup (wt := wt) (o := (other : Int)) g hxn
      refine ⟨_, rfl, a, dx3, fs3, rfl, s5 _ _ m3, m4, _, rfl, _, rfl, D, _, _, _, rfl, rfl, sqL eD, atI_nat (nV_at ex), a, x, n, G, wt, other, rfl, h0.same s5, hxn, fun H6 bl s6 nb eb => ?_⟩
      have hbd : bl ≠ ld := fun z => by rw [z, ef] at nb; cases nb
      have hbD : bl ≠ D := fun z => by rw [z, eD] at nb; cases nb
      refine ⟨bl, rfl, ⟨_, sqL eb⟩, for_it (walk_list (K := K) (a := bl) (xs := nV (bh G wt (other : Int) x))) (fun j σ H' => ∃ (fd : List Nat) (f : List (Nat × Int)) (x3 : Option V), σ = [some (.ref a), some (.ref ld), x2, x3, some (.ref D), some (.int (k : Int))] ∧ Same H H' ∧ H' ld = some (.dK (dN f)) ∧ H' D = some (.lst (nV fd)) ∧ H' bl = some (.lst (nV (bh G wt (other : Int) x))) ∧ fd[k]? = some x ∧ fd.take k = S ∧ LF f kp (fun y => rem G wt (other : Int) kp S y - if y ∈ (bh G wt (other : Int) x).take j then 1 else 0) ∧ KI G wt (other : Int) kp fd (fun y => rem G wt (other : Int) kp S y - if y ∈ (bh G wt (other : Int) x).take j then 1 else 0))
        ⟨fd, f, x3, rfl, s5.trans s6, s6 _ _ ef, s6 _ _ eD, eb, ex, hS, lf.congr (fun y hy => by simp), ki.congr (fun y hy => by simp)⟩ (fun i σ H' _ ⟨_, _, _, _, _, _, _, e, _⟩ => sqL e) ?_ ?_⟩
      · clear lf ki ef eD ex hS hk
        rintro j yv σ H7 H' hj ⟨fd, f, x3, rfl, s7, ef, eD, eb7, ex, hS, lf, ki⟩ ⟨rfl, eyv⟩
        obtain ⟨y, ey, rfl⟩ := nV_get eyv
        have nin := not_in_take bnd ey
        have hyx := List.mem_of_getElem? ey
        have flen : fd.length ≤ n := nd_len ki.nd (fun z hz => klt z (ki.sub z hz))
        have oth : ∀ z, z ≠ y → (fun y => rem G wt (other : Int) kp S y - if y ∈ (bh G wt (other : Int) x).take (j + 1) then 1 else 0) z = (fun y => rem G wt (other : Int) kp S y - if y ∈ (bh G wt (other : Int) x).take j then 1 else 0) z := fun z hz => by
          show _ - _ = _ - _
          congr 1
          exact ifm ((take_mem ey).trans ⟨fun m => m.resolve_right hz, fun m => .inl m⟩)
        refine ⟨_, rfl, _, rfl, ld, _, rfl, dgN ef y, ?_⟩
        by_cases hy : y ∈ kp
        · have e1 : lk f y = some (rem G wt (other : Int) kp S y - if y ∈ (bh G wt (other : Int) x).take j then 1 else 0) := lf.2 y hy
          have f1 : (fun y => rem G wt (other : Int) kp S y - if y ∈ (bh G wt (other : Int) x).take (j + 1) then 1 else 0) y = (rem G wt (other : Int) kp S y - if y ∈ (bh G wt (other : Int) x).take j then 1 else 0) - 1 := by
            show rem G wt (other : Int) kp S y - (if y ∈ (bh G wt (other : Int) x).take (j + 1) then (1 : Int) else 0) = _
            rw [if_pos ((take_mem ey).mpr (.inr rfl)), if_neg nin]
            omega
          have pos : 0 < rem G wt (other : Int) kp S y - (if y ∈ (bh G wt (other : Int) x).take j then (1 : Int) else 0) := by
            rw [if_neg nin]
            have h1 := rem_nn (G := G) (wt := wt) (o := (other : Int)) (kp := kp) S y
            have h2 : rem G wt (other : Int) kp S y ≠ 0 := fun z => hxS (rem_zero.mp z x hx hyx)
            omega
          have snoc := rem_snoc (G := G) (wt := wt) (o := (other : Int)) a10 hx hxS y
          rw [if_pos hyx] at snoc
          have cur : (rem G wt (other : Int) kp S y - if y ∈ (bh G wt (other : Int) x).take j then 1 else 0) - 1 = rem G wt (other : Int) kp (S ++ [x]) y := by
            rw [if_neg nin]
            omega
          rw [e1]
          have len := lfl lf
          have lf2 := lf.put hy _ f1 oth
          refine ⟨true, rfl, _, rfl, _, rfl, ld, _, rfl, dgS ef e1, _, _, rfl, rfl, _, rfl, _, rfl, ld, _, rfl, dpN ef (by rw [lf.1]; exact a10) (by omega) y _, ?_⟩
          rw [cur] at f1 lf2 ⊢
          generalize hf2 : pu f y (rem G wt (other : Int) kp (S ++ [x]) y) = f2 at *
          have e2 : lk f2 y = some (rem G wt (other : Int) kp (S ++ [x]) y) := by rw [← hf2, lk_pu, if_pos rfl]
          have s8 := same_mut (o := .dK (dN f2)) s7 nd
          have ef8 : upd H' ld (.dK (dN f2)) ld = some (.dK (dN f2)) := upd_same
          have eD8 := upd_at (o := .dK (dN f2)) eD hDl
          have eb8 := upd_at (o := .dK (dN f2)) eb7 hbd
          generalize upd H' ld (.dK (dN f2)) = H8 at *
          refine ⟨_, rfl, _, rfl, ld, _, rfl, dgS ef8 e2, rfl, _, rfl, ?_⟩
          rw [bl_int]
          refine ite2 (fun z => ?_) (fun z => ?_)
          · have hz := of_decide_eq_true z
            refine ⟨_, rfl, .inl ⟨rfl, _, sqL eD8⟩, _, rfl, D, _, _, rfl, rfl, eD8, by rw [nV_len]; exact szl (by omega), ?_⟩
            have kl2 := (List.getElem?_eq_some_iff.mp ex).1
            refine ⟨fd ++ [y], f2, _, rfl, same_mut s8 nD0, upd_at ef8 hDl.symm, by rw [upd_same, nV_app]; rfl, upd_at eb8 hbD, by rw [List.getElem?_append_left kl2]; exact ex, by rw [List.take_append_of_le_length (by omega)]; exact hS, lf2, ?_⟩
            refine ki.put hy (f1.trans cur.symm) oth (f1.trans hz) (fun x' hx' hy' => ?_)
            have m := rem_zero.mp hz x' hx' hy'
            rcases List.mem_append.mp m with m1 | m1
            · rw [← hS] at m1
              exact List.mem_of_mem_take m1
            · rw [List.mem_singleton.mp m1]
              exact List.mem_of_getElem? ex
          · refine ⟨fd, f2, _, rfl, s8, ef8, eD8, eb8, ex, hS, lf2, ki.down (f1.trans cur.symm) oth pos (fun w => z (decide_eq_true (f1.symm.trans w)))⟩
        · have e1 : lk f y = none := lk_none.mpr (by rw [lf.1]; exact hy)
          rw [e1]
          exact ⟨false, rfl, fd, f, _, rfl, s7, ef, eD, eb7, ex, hS, lf.congr (fun z hz => oth z (fun e => hy (e ▸ hz))), ki.congr (fun z hz => oth z (fun e => hy (e ▸ hz)))⟩
      · clear lf ki ef eD ex hS
        rintro σ H' ⟨fd', f, x3, rfl, s7, ef, eD, eb7, ex, hS, lf, ki⟩
        rw [nV_len, take_all] at lf ki
        have et : fd'.take (k + 1) = S ++ [x] := by rw [List.take_add_one, ex, hS]; rfl
        have kl2 := (List.getElem?_eq_some_iff.mp ex).1
        refine ⟨_, rfl, _, _, rfl, rfl, n - (k + 1), by omega, ?_⟩
        rw [hW]
        refine ⟨k + 1, fd', f, x2, x3, rfl, rfl, s7, ef, eD, by omega, ?_, ?_⟩
        · rw [et]
          exact lf.congr (fun y hy => rem_snoc a10 hx hxS y)
        · rw [et]
          exact ki.congr (fun y hy => rem_snoc a10 hx hxS y)
    · have hk2 : k = fd.length := by
        by_cases z : k < fd.length
        · exact absurd (decide_eq_true (show (k : Int) < ((nV fd).length : Int) by rw [nV_len]; omega)) e
        · omega
      subst hk2
      rw [take_all] at ki
      exact ⟨_, rfl, q _ D fd s5 nD0 eD (ki.fin klt hnr)⟩
end
end B65

end

section
set_option Elab.async false
set_option linter.all false
set_option maxRecDepth 100000
set_option maxHeartbeats 1000000
namespace B65
open PySem PySem.Spec PyProof.Rows L2
section
variable {P : Program} {w : World} {K : PySem.W.Frag} {mg : Str → Option Value} {base : Heap}
structure MI (G : Nat → List Edge) (wt : Nat → Bool) (o : Int) (n one : Nat) (kp : List Nat) (Pr : Nat → Nat → Prop) (fb fa : List (Nat × Int)) : Prop where
  ndb : (ks fb).Nodup
  nda : (ks fa).Nodup
  sa : ∀ x ∈ ks fa, x < n
  one0 : lk fb one = some 0
  kpb : ∀ x ∈ ks fb, x ∈ kp
  val : ∀ (x : Nat) (v : Int), lk fb x = some v → 0 ≤ v
  up : ∀ x y, Pr x y → y ∈ kp → ∃ u v, lk fb x = some u ∧ lk fb y = some v ∧ u + (ew G x y).2 ≤ v
  ah : ∀ y ∈ ks fb, y ≠ one → ∃ (x : Nat) (u v : Int), Pr x y ∧ y ∈ bh G wt o x ∧ lk fa y = some (x : Int) ∧ lk fb x = some u ∧ lk fb y = some v ∧ v = u + (ew G x y).2
theorem MI.congr {G : Nat → List Edge} {wt : Nat → Bool} {o : Int} {n one : Nat} {kp : List Nat} {Pr Pr' : Nat → Nat → Prop} {fb fa : List (Nat × Int)} (h : MI G wt o n one kp Pr fb fa) (e : ∀ x y, Pr x y ↔ Pr' x y) : MI G wt o n one kp Pr' fb fa :=
  ⟨h.ndb, h.nda, h.sa, h.one0, h.kpb, h.val, fun x y p hy => h.up x y ((e x y).mpr p) hy, fun y hy ho => let ⟨x, u, v, a, b⟩ := h.ah y hy ho; ⟨x, u, v, (e x y).mp a, b⟩⟩
/-- an edge looked at, nothing changed -/
theorem MI.keep {G : Nat → List Edge} {wt : Nat → Bool} {o : Int} {n one : Nat} {kp : List Nat} {Pr Pr' : Nat → Nat → Prop} {fb fa : List (Nat × Int)} (h : MI G wt o n one kp Pr fb fa) {x y : Nat} (e : ∀ a b, Pr' a b ↔ Pr a b ∨ (a = x ∧ b = y)) (hk : y ∈ kp → ∃ u v, lk fb x = some u ∧ lk fb y = some v ∧ u + (ew G x y).2 ≤ v) : MI G wt o n one kp Pr' fb fa := by
  refine ⟨h.ndb, h.nda, h.sa, h.one0, h.kpb, h.val, fun a b p hb => ?_, fun z hz ho => ?_⟩
  · rcases (e a b).mp p with p | ⟨e1, e2⟩
    · exact h.up a b p hb
    · subst e1 e2
      exact hk hb
  · obtain ⟨x9, u, v, a, b⟩ := h.ah z hz ho
    exact ⟨x9, u, v, (e x9 z).mpr (.inl a), b⟩
theorem MI.put {G : Nat → List Edge} {wt : Nat → Bool} {o : Int} {n one : Nat} {kp : List Nat} {Pr Pr' : Nat → Nat → Prop} {fb fa : List (Nat × Int)} (h : MI G wt o n one kp Pr fb fa) {x y : Nat} {u : Int} (e : ∀ a b, Pr' a b ↔ Pr a b ∨ (a = x ∧ b = y)) (hx : lk fb x = some u) (hy : y ∈ bh G wt o x) (hyk : y ∈ kp) (hyn : y < n) (hyo : y ≠ one) (hxy : x ≠ y) (hno : ∀ b, ¬ Pr y b) (h2 : 2 ≤ (ew G x y).2)
    (hb : ∀ v, lk fb y = some v → v ≤ u + (ew G x y).2) : MI G wt o n one kp Pr' (pu fb y (u + (ew G x y).2)) (pu fa y (x : Int)) := by
  refine ⟨ks_pu_nd h.ndb _ _, ks_pu_nd h.nda _ _, ?_, ?_, ?_, ?_, ?_, ?_⟩
  · intro z hz
    rcases ks_pu_mem.mp hz with e | e
    · rw [e]; exact hyn
    · exact h.sa z e
  · rw [lk_pu, if_neg (fun z => hyo z.symm)]
    exact h.one0
  · intro z hz
    rcases ks_pu_mem.mp hz with e | e
    · rw [e]; exact hyk
    · exact h.kpb z e
  · intro z v hz
    rw [lk_pu] at hz
    split at hz
    · cases hz
      have := h.val x u hx
      omega
    · exact h.val z v hz
  · intro a b p hbk
    rcases (e a b).mp p with p | ⟨e1, e2⟩
    · have hay : a ≠ y := fun z => hno b (z ▸ p)
      obtain ⟨u9, v9, p1, p2, p3⟩ := h.up a b p hbk
      by_cases eb : b = y
      · subst eb
        exact ⟨u9, u + (ew G x b).2, by rw [lk_pu, if_neg hay]; exact p1, by rw [lk_pu, if_pos rfl], by have := hb v9 p2; omega⟩
      · exact ⟨u9, v9, by rw [lk_pu, if_neg hay]; exact p1, by rw [lk_pu, if_neg eb]; exact p2, p3⟩
    · subst e1 e2
      exact ⟨u, _, by rw [lk_pu, if_neg hxy]; exact hx, by rw [lk_pu, if_pos rfl], Int.le_refl _⟩
  · intro z hz ho
    by_cases ez : z = y
    · subst ez
      exact ⟨x, u, _, (e x z).mpr (.inr ⟨rfl, rfl⟩), hy, by rw [lk_pu, if_pos rfl], by rw [lk_pu, if_neg hxy]; exact hx, by rw [lk_pu, if_pos rfl], rfl⟩
    · obtain ⟨x9, u9, v9, q1, q2, q3, q4, q5, q6⟩ := h.ah z ((ks_pu_mem.mp hz).resolve_left ez) ho
      have hx9 : x9 ≠ y := fun z => hno _ (z ▸ q1)
      exact ⟨x9, u9, v9, (e x9 z).mpr (.inl q1), q2, by rw [lk_pu, if_neg ez]; exact q3, by rw [lk_pu, if_neg hx9]; exact q4, by rw [lk_pu, if_neg ez]; exact q5, q6⟩
/-- the most beats found -/
structure MOk (G : Nat → List Edge) (wt : Nat → Bool) (o : Int) (n one : Nat) (kp od : List Nat) (fb fa : List (Nat × Int)) : Prop extends MI G wt o n one kp (fun x y => x ∈ kp ∧ y ∈ bh G wt o x) fb fa where
  ord : OrdOk G wt o kp od
  all : ∀ x ∈ kp, x ∈ ks fb
def sp_Seeker_most (K : PySem.W.Frag) : Sp := fun vs H Q _ => ∃ (a : Addr) (n : Nat) (G : Nat → List Edge) (wt : Nat → Bool) (one other : Nat) (f : List (Nat × Int)) (kp : List Nat), vs = [.ref a] ∧ SeekF K H a n G wt one other f kp ∧ one ∈ kp ∧ (∀ x ∈ kp, ¬ OnR G wt (other : Int) x) ∧ ∀ H' t db da fb fa od, Same H H' → H' t = some (.tup [.ref db, .ref da]) → H' db = some (.dK (dN fb)) → H' da = some (.dK (dN fa)) → MOk G wt (other : Int) n one kp od fb fa → Q (.ref t) H'
theorem sc_Seeker_most : FnScope ["self", "beats", "ahead", "row", "following", "pair", "total"] ["self"] (defScope (inClass (topS 56) 5)) := ⟨rfl, rfl, rfl, by decide +kernel, rfl, by decide +kernel, by decide +kernel⟩
theorem ok_Seeker_most (T : Txt K mg) : OkM P w K mg base 3 "most" ["self"] (sp_Seeker_most K) := by
  obtain ⟨fd, F⟩ := T.d_Seeker_most
  obtain ⟨fd_Seeker_in_order, G_Seeker_in_order, kp_Seeker_in_order, b_Seeker_in_order⟩ := ok_Seeker_in_order (P := P) (w := w) (base := base) T
  obtain ⟨fd_Seeker_behind, G_Seeker_behind, kp_Seeker_behind, b_Seeker_behind⟩ := ok_Seeker_behind (P := P) (w := w) (base := base) T
  obtain ⟨tMOST, hMOST⟩ := T.n_MOST
  refine ⟨fd, F.ok sc_Seeker_most (fun vs H Q E h => ?_) (fun cdv A outer s H vs Q E hr h => ?_), F.kp, F.bindsN fun _ _ _ _ _ _ us hl => match us, hl with | [_], _ => rfl⟩
  · obtain ⟨a, n, G, wt, one, other, f, kp, rfl, _⟩ := h
    rfl
  · obtain ⟨a, n, G, wt, one, other, f, kp, rfl, hs, hok, hnr, q⟩ := h
    have hu := hu_of hr
    refine ⟨_, PSs.nox (pss_cons (ps_set (i := 1) sc_Seeker_most.nd rfl (by first | exact Or.inl rfl | exact Or.inr rfl) (pe_disp (pps_cons (pe_fld (pv 0) rfl) pe_int pps_nil) (by rfl) (by rfl) (fun z => by cases z) (by decide)))
      (pss_cons (ps_set (i := 2) sc_Seeker_most.nd rfl (by first | exact Or.inl rfl | exact Or.inr rfl) pe_dnewK)
      (pss_cons (ps_for PassesOwn.never rfl (pi_list (pe_meth0 (pv 0) T.cl T.m_in_order G_Seeker_in_order hr b_Seeker_in_order .nil pass0)) (pg_name (i := 3) sc_Seeker_most.nd rfl (by first | exact Or.inl rfl | exact Or.inr rfl))
      (pss_one (ps_for PassesOwn.never rfl (pi_list (pe_meth (pv 0) T.cl T.m_behind G_Seeker_behind (hr.mono (by decide)) b_Seeker_behind .nil pass0 (pa_cons (pv 3) pa_nil))) (pg_name (i := 4) sc_Seeker_most.nd rfl (by first | exact Or.inl rfl | exact Or.inr rfl))
      (pss_cons (ps_set (i := 5) sc_Seeker_most.nd rfl (by first | exact Or.inl rfl | exact Or.inr rfl) (pe_dget hu (pe_ix ix_list (pe_fld (pv 0) rfl) (pv 3) (fun _ _ => rfl)) (pv 4) (fun _ _ => rfl)))
      (pss_cons (ps_set (i := 6) sc_Seeker_most.nd rfl (by first | exact Or.inl rfl | exact Or.inr rfl) (pe_op op_add (pe_dget hu (pv 1) (pv 3) (fun _ _ => rfl)) (pe_ix ix_tup (pv 5) (pe_glob (v := .int 1) (by rfl) hMOST ⟨_, rfl⟩) (fun _ _ => rfl))))
      (pss_one (ps_if (PW.pt (pw_and (pt_cmpR op_in_seq (pv 4) (pe_fld (pv 0) rfl) (by rfl)) (pw_and1 (pt_cmpR op_gt (pv 6) (pe_dget2 hu (pv 1) (pv 4) (pe_un un_neg pe_int) ⟨rfl, rfl, rfl, rfl⟩) (nomark _)))))
      (pss_cons (ps_dput hu (pv 1) (pv 4) (pv 6) rfl)
      (pss_one (ps_dput hu (pv 2) (pv 4) (pv 3) rfl)))
      pss_nil)))))))
      (pss_one (ps_ret (pe_tup (pa_cons (pv 1) (pa_cons (pv 2) pa_nil)))))))), ?_⟩
    obtain ⟨h0, dx, fs, md, kl, a1, a2, a3, a4, a5, a6, a7, a8, a9, a10, a11⟩ := id hs
    obtain ⟨dx2, fs2, st, wl, b1, b2, b3, b4, b5, b6, b7, b8, b9⟩ := id h0
    have g := h0.gra
    have n120 := g.n120
    obtain ⟨dx3, fs3, m3, m4⟩ := h0.meth (m := "behind") (by decide)
    obtain ⟨dx4, fs4, m5, m6⟩ := h0.meth (m := "in_order") (by decide)
    have klt : ∀ x ∈ kp, x < n := fun x hx => Rc.lt g a9 ((a11 x).mp hx).1
    refine fun db nb => ⟨_, rfl, a, _, dx, fs, _, rfl, same_new nb _ _ a1, T.cl, T.a_one, a2, upd_same, [((Sum.inl (one : Int) : Key), V.int 0)], rfl, by show 1 ≤ 15; decide, ?_⟩
    have sb := same_mut (o := .dK (mergeK [] [((Sum.inl (one : Int) : Key), V.int 0)])) (same_new (o := .dK []) nb) nb
    have eb : upd (upd H db (.dK [])) db (.dK (mergeK [] [((Sum.inl (one : Int) : Key), V.int 0)])) db = some (.dK (dN [(one, 0)])) := upd_same
    generalize upd (upd H db (.dK [])) db (.dK (mergeK [] [((Sum.inl (one : Int) : Key), V.int 0)])) = H1 at *
    refine fun da na => ?_
    have na0 := none_of sb na
    have hba : db ≠ da := ne_of_none eb na
    have s1 := sb.trans (same_new (o := .dK []) na)
    have eb1 : upd H1 da (.dK []) db = some (.dK (dN [(one, 0)])) := upd_at eb hba
    have ea1 : upd H1 da (.dK []) da = some (.dK (dN [])) := upd_same
    generalize upd H1 da (.dK []) = H2 at *
    refine ⟨_, rfl, a, dx4, fs4, rfl, s1 _ _ m5, m6, a, n, G, wt, one, other, f, kp, rfl, hs.same s1, hnr, fun H3 ol od s3 nol eol ok => ?_⟩
    have s13 := s1.trans s3
    have hol : ol ≠ db := fun z => by rw [z, eb1] at nol; cases nol
    have holA : ol ≠ da := fun z => by rw [z, ea1] at nol; cases nol
    have start : MI G wt (other : Int) n one kp (fun x y => x ∈ od.take 0 ∧ y ∈ bh G wt (other : Int) x) [(one, 0)] [] :=
      ⟨by simp [ks], by simp [ks], fun x h => (by cases h), by simp [lk], fun x h => (by rw [List.mem_singleton.mp h]; exact hok), fun x v h => (by
        change (if one = x then some (0 : Int) else none) = some v at h
        split at h
        · cases h; exact Int.le_refl _
        · cases h), fun x y p => (by have := p.1; simp at this), fun y hy ho => absurd (List.mem_singleton.mp hy) ho⟩
    refine ⟨ol, rfl, ⟨_, sqL eol⟩, for_it (walk_list (K := K) (a := ol) (xs := nV od)) (fun i σ H' => ∃ (fb fa : List (Nat × Int)) (x3 x4 x5 x6 : Option V), σ = [some (.ref a), some (.ref db), some (.ref da), x3, x4, x5, x6] ∧ Same H H' ∧ H' db = some (.dK (dN fb)) ∧ H' da = some (.dK (dN fa)) ∧ H' ol = some (.lst (nV od)) ∧ MI G wt (other : Int) n one kp (fun x y => x ∈ od.take i ∧ y ∈ bh G wt (other : Int) x) fb fa)
      ⟨[(one, 0)], [], none, none, none, none, rfl, s13, s3 _ _ eb1, s3 _ _ ea1, eol, start⟩ (fun i σ H' _ ⟨_, _, _, _, _, _, _, _, _, _, e, _⟩ => sqL e) ?_ ?_⟩
    · rintro i xv σ H4 H' hi ⟨fb, fa, x3, x4, x5, x6, rfl, s4, eb4, ea4, eo4, mi⟩ ⟨rfl, exv⟩
      obtain ⟨x, ex, rfl⟩ := nV_get exv
      have hxk := (ok.mem x).mp (List.mem_of_getElem? ex)
      have hxn := klt x hxk
      have bnd := bh_nodup (wt := wt) (o := (other : Int)) g hxn
      -- what stands behind x in order
      have later : ∀ y, y ∈ kp → y ∈ bh G wt (other : Int) x → y ∉ od.take (i + 1) := by
        intro y hy hyx m
        obtain ⟨j, hj, ej⟩ := List.mem_iff_getElem.mp m
        have e2 : (od.take (i + 1))[j]? = some y := by rw [List.getElem?_eq_getElem hj, ej]
        rw [List.getElem?_take] at e2
        split at e2
        · obtain ⟨i9, l9, e9⟩ := ok.top j y e2 x hxk hyx
          have := nd_ix ok.nd e9 ex
          omega
        · cases e2
      obtain ⟨u, hu⟩ : ∃ u, lk fb x = some u := by
        by_cases e : x = one
        · rw [e]; exact ⟨0, mi.one0⟩
        · obtain ⟨r1, r2⟩ := (a11 x).mp hxk
          cases r1 with
          | refl => exact absurd rfl e
          | step r3 r4 =>
            rename_i z
            have hz : z ∈ kp := (a11 z).mpr ⟨r3, (Rc.step .refl r4).trans r2⟩
            obtain ⟨i9, l9, e9⟩ := ok.top i x ex z hz r4
            obtain ⟨_, v, _, q2, _⟩ := mi.up z x ⟨List.mem_iff_getElem?.mpr ⟨i9, by rw [List.getElem?_take, if_pos l9]; exact e9⟩, r4⟩ hxk
            exact ⟨v, q2⟩
      refine ⟨_, rfl, a, dx3, fs3, rfl, s4 _ _ m3, m4, _, rfl, a, x, n, G, wt, other, rfl, h0.same s4, hxn, fun H5 bl s5 nbl ebl => ?_⟩
      have hbd : bl ≠ db := fun z => by rw [z, eb4] at nbl; cases nbl
      have hbA : bl ≠ da := fun z => by rw [z, ea4] at nbl; cases nbl
      refine ⟨bl, rfl, ⟨_, sqL ebl⟩, for_it (walk_list (K := K) (a := bl) (xs := nV (bh G wt (other : Int) x))) (fun j σ H' => ∃ (fb fa : List (Nat × Int)) (x4 x5 x6 : Option V), σ = [some (.ref a), some (.ref db), some (.ref da), some (.int (x : Int)), x4, x5, x6] ∧ Same H H' ∧ H' db = some (.dK (dN fb)) ∧ H' da = some (.dK (dN fa)) ∧ H' ol = some (.lst (nV od)) ∧ H' bl = some (.lst (nV (bh G wt (other : Int) x))) ∧ lk fb x = some u ∧ MI G wt (other : Int) n one kp (fun a b => (a ∈ od.take i ∧ b ∈ bh G wt (other : Int) a) ∨ (a = x ∧ b ∈ (bh G wt (other : Int) x).take j)) fb fa)
        ⟨fb, fa, x4, x5, x6, rfl, s4.trans s5, s5 _ _ eb4, s5 _ _ ea4, s5 _ _ eo4, ebl, hu, mi.congr (fun a b => ⟨fun h => .inl h, fun h => h.resolve_right (fun z => by simp at z)⟩)⟩ (fun i σ H' _ ⟨_, _, _, _, _, _, _, _, _, _, e, _⟩ => sqL e) ?_ ?_⟩
      · clear mi eb4 ea4 hu
        rintro j yv σ H6 H' hj ⟨fb, fa, x4, x5, x6, rfl, s6, eb6, ea6, eo6, ebl6, hu, mi⟩ ⟨rfl, eyv⟩
        obtain ⟨y, ey, rfl⟩ := nV_get eyv
        have hy := List.mem_of_getElem? ey
        have hyn := bh_lt g hxn hy
        have nin := not_in_take bnd ey
        obtain ⟨ys, d9, t9, g1, g2, g3, g4⟩ := (b6.same s6).edge g.toGrOk hxn (bh_mem.mp hy).2.1
        obtain ⟨w1, w2, w3⟩ := ew_bd g hxn hy
        have lenb : fb.length ≤ n := by
          have := nd_len mi.ndb (fun z hz => klt z (mi.kpb z hz))
          rw [ks_len] at this
          exact this
        have lena : fa.length ≤ n := by
          have := nd_len mi.nda mi.sa
          rw [ks_len] at this
          exact this
        have prn : ∀ a b, ((a ∈ od.take i ∧ b ∈ bh G wt (other : Int) a) ∨ (a = x ∧ b ∈ (bh G wt (other : Int) x).take (j + 1))) ↔ ((a ∈ od.take i ∧ b ∈ bh G wt (other : Int) a) ∨ (a = x ∧ b ∈ (bh G wt (other : Int) x).take j)) ∨ (a = x ∧ b = y) := by
          intro a b
          rw [take_mem ey]
          constructor
          · rintro (h | ⟨h1, h2 | h2⟩)
            · exact .inl (.inl h)
            · exact .inl (.inr ⟨h1, h2⟩)
            · exact .inr ⟨h1, h2⟩
          · rintro ((h | ⟨h1, h2⟩) | ⟨h1, h2⟩)
            · exact .inl h
            · exact .inr ⟨h1, .inl h2⟩
            · exact .inr ⟨h1, .inr h2⟩
        refine ⟨_, rfl, a, _, dx2, fs2, _, rfl, s6 _ _ b1, T.cl, T.a_steps, b4, _, rfl, st, _, _, _, rfl, rfl, sqL g1, g2, _, rfl, d9, _, rfl, g3, ?_⟩
        refine ⟨_, rfl, _, rfl, db, _, rfl, dgS eb6 hu, _, rfl, t9, _, _, _, rfl, rfl, sqT g4, atI_nat (j := 1) rfl, _, _, rfl, rfl, ?_⟩
        refine ⟨_, rfl, _, rfl, a, _, dx, fs, _, rfl, s6 _ _ a1, T.cl, T.a_kept, a5, kl, _, rfl, .inl (sqL (s6 _ _ a7)), rfl, by rw [nV_int]; exact flat_ints _, _, rfl, ?_⟩
        rw [show (if false = true then !inV (V.int (y : Int)) (nV kp) else inV (V.int (y : Int)) (nV kp)) = decide (y ∈ kp) from in_nV y kp]
        refine ite2 (fun e => ?_) (fun e => ?_)
        · have hyk := of_decide_eq_true e
          have hyo : y ≠ one := fun z => by
            have r1 := ((a11 x).mp hxk).1
            exact hnr one hok (OnR.of r1 (z ▸ hy))
          have hxy : x ≠ y := fun z => by
            rw [← z] at hy
            exact hnr x hxk ⟨x, hy, .refl⟩
          have ny := later y hyk hy
          have et : od.take (i + 1) = od.take i ++ [x] := by rw [List.take_add_one, ex]; rfl
          have hno : ∀ b, ¬ ((y ∈ od.take i ∧ b ∈ bh G wt (other : Int) y) ∨ (y = x ∧ b ∈ (bh G wt (other : Int) x).take j)) := by
            rintro b (⟨h1, _⟩ | ⟨h1, _⟩)
            · exact ny (by rw [et]; exact List.mem_append.mpr (.inl h1))
            · exact hxy h1.symm
          refine ⟨_, rfl, _, rfl, db, rfl, .inl ⟨_, .inl eb6⟩, _, rfl, 1, rfl, _, dgN eb6 y, _, (lk fb y).getD (-1), rfl, by cases lk fb y <;> rfl, _, rfl, ite2 (fun e2 => ?_) (fun e2 => ?_)⟩
          · have hgt := of_decide_eq_true e2
            refine ⟨_, rfl, _, rfl, _, rfl, db, _, rfl, dpN eb6 mi.ndb (by omega) y (u + (ew G x y).2), ?_⟩
            have s8 := same_mut (o := .dK (dN (pu fb y (u + (ew G x y).2)))) s6 nb
            have eb8 : upd H' db (.dK (dN (pu fb y (u + (ew G x y).2)))) db = some (.dK (dN (pu fb y (u + (ew G x y).2)))) := upd_same
            have ea8 := upd_at (o := .dK (dN (pu fb y (u + (ew G x y).2)))) ea6 hba.symm
            have eo8 := upd_at (o := .dK (dN (pu fb y (u + (ew G x y).2)))) eo6 hol
            have ebl8 := upd_at (o := .dK (dN (pu fb y (u + (ew G x y).2)))) ebl6 hbd
            generalize upd H' db (.dK (dN (pu fb y (u + (ew G x y).2)))) = H8 at *
            refine ⟨_, rfl, _, rfl, _, rfl, da, _, rfl, dpN ea8 mi.nda (by omega) y (x : Int), ?_⟩
            refine ⟨_, _, _, _, _, rfl, same_mut s8 na0, upd_at eb8 hba, upd_same, upd_at eo8 holA, upd_at ebl8 hbA, by rw [lk_pu, if_neg hxy]; exact hu, mi.put prn hu hy hyk hyn hyo hxy hno (by omega) (fun v hv => ?_)⟩
            rw [hv] at hgt
            exact Int.le_of_lt hgt
          · refine ⟨fb, fa, _, _, _, rfl, s6, eb6, ea6, eo6, ebl6, hu, mi.keep prn (fun _ => ?_)⟩
            have hng : ¬ (lk fb y).getD (-1) < u + (ew G x y).2 := fun z => e2 (decide_eq_true z)
            have u0 := mi.val x u hu
            cases q9 : lk fb y with
            | none => rw [q9] at hng; exact absurd (show (-1 : Int) < u + (ew G x y).2 by omega) hng
            | some v => rw [q9] at hng; exact ⟨u, v, hu, rfl, by have : ¬ v < u + (ew G x y).2 := hng; omega⟩
        · have hyk : y ∉ kp := fun z => e (decide_eq_true z)
          exact ⟨fb, fa, _, _, _, rfl, s6, eb6, ea6, eo6, ebl6, hu, mi.keep prn (fun z => absurd z hyk)⟩
      · clear mi eb4 ea4 hu
        rintro σ H' ⟨fb, fa, x4, x5, x6, rfl, s6, eb6, ea6, eo6, ebl6, hu, mi⟩
        rw [nV_len, take_all] at mi
        refine ⟨fb, fa, _, x4, x5, x6, rfl, s6, eb6, ea6, eo6, mi.congr (fun a b => ?_)⟩
        rw [take_mem ex]
        constructor
        · rintro (⟨h1, h2⟩ | ⟨h1, h2⟩)
          · exact ⟨.inl h1, h2⟩
          · exact ⟨.inr h1, h1 ▸ h2⟩
        · rintro ⟨h1 | h1, h2⟩
          · exact .inl ⟨h1, h2⟩
          · exact .inr ⟨h1, h1 ▸ h2⟩
    · rintro σ H' ⟨fb, fa, x3, x4, x5, x6, rfl, s4, eb4, ea4, eo4, mi⟩
      rw [nV_len, take_all] at mi
      refine ⟨_, rfl, _, rfl, by show 2 ≤ sizeLine; decide, fun t nt => ?_⟩
      have mi2 := mi.congr (Pr' := fun x y => x ∈ kp ∧ y ∈ bh G wt (other : Int) x) (fun a b => by rw [ok.mem a])
      refine q _ t db da fb fa od (s4.trans (same_new nt)) upd_same (same_new nt _ _ eb4) (same_new nt _ _ ea4) ⟨mi2, ok, fun x hx => ?_⟩
      obtain ⟨r1, r2⟩ := (a11 x).mp hx
      cases r1 with
      | refl => exact lk_ks mi.one0
      | step r3 r4 =>
        rename_i z
        have hz : z ∈ kp := (a11 z).mpr ⟨r3, (Rc.step .refl r4).trans r2⟩
        obtain ⟨_, v, _, q2, _⟩ := mi2.up z x ⟨hz, r4⟩ hx
        exact lk_ks q2
end
end B65

end

section
set_option Elab.async false
set_option linter.all false
set_option maxRecDepth 100000
set_option maxHeartbeats 1000000
namespace B65
open PySem PySem.Spec PyProof.Rows L2
section
variable {P : Program} {w : World} {K : PySem.W.Frag} {mg : Str → Option Value} {base : Heap}
def highPs (n : Nat) (fb f : List (Nat × Int)) : List Price := (List.range n).map fun i => match lk fb i with | some v => .int v | none => if i ∈ ks f then .closed else .no
theorem highPs_at {n : Nat} {fb f : List (Nat × Int)} {i : Nat} (h : i < n) : (highPs n fb f)[i]? = some (match lk fb i with | some v => .int v | none => if i ∈ ks f then .closed else .no) := by
  unfold highPs
  rw [List.getElem?_map, List.getElem?_range h]
  rfl
theorem high_ok {G : Nat → List Edge} {wt : Nat → Bool} {n one other : Nat} {fb fa f : List (Nat × Int)} {kp od w : List Nat} {B : Int} (g : GraOk G n) (h1 : one < n) (ho : other < n) (ne : one ≠ other) (mo : MOk G wt (other : Int) n one kp od fb fa) (mt : MetOk G wt (other : Int) n one f)
    (kk : ∀ x, x ∈ kp ↔ Rc G wt (other : Int) one x ∧ Rc G wt (other : Int) x other) (hB : lk fb other = some B)
    (w0 : w[0]? = some one) (wl : w.getLast? = some other) (wc : Chn (fun x y => (y ∈ bh G wt (other : Int) x ∧ gv fb y = gv fb x + pk 1 (ew G x y)) ∧ ixN x od < ixN y od) w) (wg : ∀ x ∈ w, x ∈ ks fb) : PaperOk G wt n one other 1 B w (highPs n fb f) := by
  have n120 := g.n120
  have klt : ∀ x ∈ kp, x < n := fun x hx => Rc.lt g h1 ((kk x).mp hx).1
  have lt : ∀ x ∈ w, x < n := fun x hx => klt x (mo.kpb x (wg x hx))
  have len := nd_len (rk_nodup (rk := fun x => ixN x od) wc) lt
  refine ⟨by unfold highPs; rw [List.length_map, List.length_range], WayOk.mk2 (by omega) lt (wc.mono fun _ _ h => h.1.1) w0 wl ne, ?_, ?_, ?_, fun i hi p ep => ?_⟩
  · rw [wsum_tel (wc.mono fun _ _ h => h.1.2) w0 wl, gv_some mo.one0, gv_some hB]
    omega
  · rw [highPs_at h1, mo.one0]
  · rw [highPs_at ho, hB]
  · rw [highPs_at hi] at ep
    cases q : lk fb i with
    | none =>
      rw [q] at ep
      have nk : i ∉ kp := fun z => lk_none.mp q (mo.all i z)
      by_cases m : i ∈ ks f
      · rw [show (match (none : Option Int) with | some v => Price.int v | none => if i ∈ ks f then .closed else .no) = Price.closed from if_pos m] at ep
        cases ep
        intro ed hed hw
        have ne2 : i ≠ other := fun z => lk_none.mp q (z ▸ lk_ks hB)
        have b := inE_bh hed hw ne2
        have r1 := (mt.rc i).mp m
        have nk2 : ed.1 ∉ kp := fun z => nk ((kk i).mpr ⟨r1, (Rc.step .refl b).trans ((kk ed.1).mp z).2⟩)
        rw [highPs_at (g.ed i hi ed hed).1, lk_none.mpr (fun z => nk2 (mo.kpb _ z))]
        exact congrArg some (if_pos (mt.closed m b))
      · rw [show (match (none : Option Int) with | some v => Price.int v | none => if i ∈ ks f then .closed else .no) = Price.no from if_neg m] at ep
        cases ep
        trivial
    | some v =>
      rw [q] at ep
      cases ep
      by_cases e : i = other
      · exact .inl e
      · refine .inr fun ed hed hw => ?_
        have b := inE_bh hed hw e
        have ik := mo.kpb i (lk_ks q)
        have lt2 := (g.ed i hi ed hed).1
        by_cases ek : ed.1 ∈ kp
        · obtain ⟨u, v2, r1, r2, r3⟩ := mo.up i ed.1 ⟨ik, b⟩ ek
          rw [q] at r1
          cases r1
          refine ⟨.int v2, ?_, ?_⟩
          · rw [highPs_at lt2, r2]
          · rw [ew_eq g.toGrOk hi hed] at r3
            exact r3
        · refine ⟨.closed, ?_, trivial⟩
          rw [highPs_at lt2, lk_none.mpr (fun z => ek (mo.kpb _ z))]
          exact congrArg some (if_pos (mt.closed ((mt.rc i).mpr ((kk i).mp ik).1) b))
theorem MOk.step {G : Nat → List Edge} {wt : Nat → Bool} {o : Int} {n one : Nat} {kp od : List Nat} {fb fa : List (Nat × Int)} (mo : MOk G wt o n one kp od fb fa) {x : Nat} (hx : x ∈ ks fb) (hxo : x ≠ one) : ∃ y : Nat, lk fa x = some (y : Int) ∧ (x ∈ bh G wt o y ∧ gv fb x = gv fb y + pk 1 (ew G y x)) ∧ y ∈ ks fb ∧ ixN y od < ixN x od := by
  obtain ⟨y, u, v, ⟨q0, _⟩, q2, q3, q4, q5, q6⟩ := mo.ah x hx hxo
  have hxo2 := (mo.ord.mem x).mpr (mo.kpb x hx)
  obtain ⟨i, i1, i2⟩ := mo.ord.top _ x (ixN_get hxo2) y q0 q2
  have e9 := nd_ix mo.ord.nd i2 (ixN_get ((mo.ord.mem y).mpr q0))
  refine ⟨y, q3, ⟨q2, ?_⟩, lk_ks q4, by omega⟩
  rw [gv_some q4, gv_some q5]
  exact q6
def sp_high_paper (K : PySem.W.Frag) : Sp := fun vs H Q _ => ∃ (p a : Addr) (rs : List Row) (G : Nat → List Edge) (wt : Nat → Bool) (one other : Nat) (f : List (Nat × Int)) (kp : List Nat), vs = [.ref p, .ref a] ∧ ProgAt H p rs ∧ SeekF K H a rs.length G wt one other f kp ∧ one ≠ other ∧ Rc G wt (other : Int) one other ∧ ∀ H' t x, Same H H' → HighAt K H' t x → HighOk G wt rs.length one other x → Q (.ref t) H'
theorem sc_high_paper : FnScope ["program", "seeker", "row", "beats", "ahead", "prices", "number", "closed"] ["program", "seeker"] (defScope (topS 61)) := ⟨rfl, rfl, rfl, by decide +kernel, rfl, by decide +kernel, by decide +kernel⟩
theorem ok_high_paper (T : Txt K mg) : Ok P w K mg base 6 "high_paper" ["program", "seeker"] (sp_high_paper K) := by
  obtain ⟨fd, F⟩ := T.d_high_paper
  obtain ⟨fd_Seeker_turning, G_Seeker_turning, kp_Seeker_turning, b_Seeker_turning⟩ := ok_Seeker_turning (P := P) (w := w) (base := base) T
  obtain ⟨fd_round_paper, G_round_paper, kp_round_paper, b_round_paper⟩ := ok_round_paper (P := P) (w := w) (base := base) T
  obtain ⟨fd_Seeker_most, G_Seeker_most, kp_Seeker_most, b_Seeker_most⟩ := ok_Seeker_most (P := P) (w := w) (base := base) T
  obtain ⟨fd_way_back, G_way_back, kp_way_back, b_way_back⟩ := ok_way_back (P := P) (w := w) (base := base) T
  refine ⟨fd, F.ok sc_high_paper (fun vs H Q E h => ?_) (fun cdv A outer s H vs Q E hr h => ?_), F.kp, F.bindsN fun _ _ _ _ _ _ us hl => match us, hl with | [_, _], _ => rfl⟩
  · obtain ⟨p, a, rs, G, wt, one, other, f, kp, rfl, _⟩ := h
    rfl
  · obtain ⟨p, a, rs, G, wt, one, other, f, kp, rfl, hp, hs, hne, hrc, q⟩ := h
    have hu := hu_of hr
    refine ⟨_, PSs.nox (pss_cons (ps_set (i := 2) sc_high_paper.nd rfl (by first | exact Or.inl rfl | exact Or.inr rfl) (pe_meth0 (pv 1) T.cl T.m_turning G_Seeker_turning hr b_Seeker_turning .nil pass0))
      (pss_cons (ps_if (pt_cmpR op_notN (pv 2) pe_non (nomark _))
      (pss_one (ps_ret (pe_call G_round_paper hr (by rfl) T.g_round_paper kp_round_paper b_round_paper .nil pass0 (pa_cons (pv 1) (pa_cons (pv 2) pa_nil)))))
      pss_nil)
      (pss_cons (ps_asg (pe_meth0 (pv 1) T.cl T.m_most G_Seeker_most (hr.mono (by decide)) b_Seeker_most .nil pass0) (pg_tup rfl (pgs_cons (pg_name (i := 3) sc_high_paper.nd rfl (by first | exact Or.inl rfl | exact Or.inr rfl)) (pgs_cons (pg_name (i := 4) sc_high_paper.nd rfl (by first | exact Or.inl rfl | exact Or.inr rfl)) pgs_nil))))
      (pss_cons (ps_set (i := 5) sc_high_paper.nd rfl (by first | exact Or.inl rfl | exact Or.inr rfl) (pe_lst pa_nil))
      (pss_cons (ps_for PassesOwn.never rfl (pi_range1 (by rfl) T.z_range (pa_cons (pe_callB call_len_seq (by rfl) T.z_len (by decide +kernel) (pa_cons (pv 0) pa_nil)) pa_nil)) (pg_name (i := 6) sc_high_paper.nd rfl (by first | exact Or.inl rfl | exact Or.inr rfl))
      (pss_cons (ps_set (i := 7) sc_high_paper.nd rfl (by first | exact Or.inl rfl | exact Or.inr rfl) (pe_ifExp (pt_cmp (pc_din hu (pv 6) (pe_fld (pv 1) rfl))) (pe_tup pa_nil) pe_non))
      (pss_one (ps_expr (pe_bm PySem.F.plainAttrs_list PySem.F.slot_list_append PySem.F.type_list_append mt_append (pv 5) (pa_cons (pe_dget2 hu (pv 3) (pv 6) (pv 7) ⟨rfl, rfl, rfl, rfl⟩) pa_nil))))))
      (pss_one (ps_ret (pe_tup (pa_cons pe_str (pa_cons (pe_dget hu (pv 3) (pe_fld (pv 1) rfl) (fun _ _ => rfl)) (pa_cons (pe_call G_way_back (hr.mono (by decide)) (by rfl) T.g_way_back kp_way_back b_way_back .nil pass0 (pa_cons (pv 4) (pa_cons (pe_fld (pv 1) rfl) (pa_cons (pe_fld (pv 1) rfl) pa_nil)))) (pa_cons (pe_callTy call_tuple_of (by rfl) T.z_tuple (by decide +kernel) (pa_cons (pv 5) pa_nil)) pa_nil)))))))))))), ?_⟩
    obtain ⟨h0, dx, fs, md, kl, a1, a2, a3, a4, a5, a6, a7, a8, a9, a10, a11⟩ := id hs
    have g := h0.gra
    have n120 := g.n120
    have ho := Rc.lt g a9 hrc
    obtain ⟨dx3, fs3, m3, m4⟩ := h0.meth (m := "turning") (by decide)
    obtain ⟨dx4, fs4, m5, m6⟩ := h0.meth (m := "most") (by decide)
    refine ⟨_, rfl, a, dx3, fs3, rfl, m3, m4, a, rs.length, G, wt, one, other, f, kp, rfl, hs, fun H1 tn s1 ht => ?_⟩
    rcases ht with ⟨rfl, hno⟩ | ⟨x, rfl, hx, hr9⟩
    · refine ⟨_, rfl, rfl, false, rfl, ?_⟩
      have hok : one ∈ kp := (a11 one).mpr ⟨.refl, hrc⟩
      have hok2 : other ∈ kp := (a11 other).mpr ⟨hrc, .refl⟩
      refine ⟨_, rfl, a, dx4, fs4, rfl, s1 _ _ m5, m6, a, rs.length, G, wt, one, other, f, kp, rfl, hs.same s1, hok, hno, fun H2 t db da fb fa od s2 et eb ea mo => ?_⟩
      have s12 := s1.trans s2
      refine ⟨t, _, rfl, sqT et, rfl, _, _, rfl, _, _, rfl, rfl, ?_⟩
      refine ⟨Nat.zero_le _, fun l nl => ?_⟩
      have s3 := s12.trans (same_new (o := .lst []) nl)
      have s23 := same_new (H := H2) (o := .lst []) nl
      have el : upd H2 l (.lst []) l = some (.lst []) := upd_same
      generalize upd H2 l (.lst []) = H3 at *
      have nl0 := none_of s12 nl
      obtain ⟨xs, w1, w2, w3⟩ := (hp.same s3).walk
      refine ⟨_, rfl, p, _, rfl, .inr (sqT w1), _, rfl, by omega, by omega, for_it walk_rng (fun i σ H' => ∃ (acc : List V) (x6 x7 : Option V), σ = [some (.ref p), some (.ref a), some .non, some (.ref db), some (.ref da), some (.ref l), x6, x7] ∧ Same H H' ∧ Same H2 H' ∧ H' l = some (.lst acc) ∧ acc.length = i ∧ ∀ (j : Nat) (v : V) (pr : Price), acc[j]? = some v → (highPs rs.length fb f)[j]? = some pr → PrV H' v pr)
        ⟨[], none, none, rfl, s3, s23, el, rfl, fun j v pr e => by simp at e⟩ (fun _ _ _ _ _ => trivial) ?_ ?_⟩
      · rintro i xv σ H4 H' hi ⟨acc, x6, x7, rfl, s4, s24, el4, len, hpr⟩ ⟨rfl, rfl⟩
        have hi2 : i < rs.length := by omega
        refine ⟨_, rfl, _, rfl, a, _, dx, fs, _, rfl, s4 _ _ a1, T.cl, T.a_met, a4, md, _, rfl, dgN (s4 _ _ a6) i, ?_⟩
        have rest : ∀ (v7 : V) (H5 : Hp), Same H' H5 → (lk fb i = none → PrV H5 v7 (if i ∈ ks f then .closed else .no)) → ∃ v, ((lk fb i).map V.int).getD v7 = v ∧ ∀ pr, (highPs rs.length fb f)[i]? = some pr → PrV H5 v pr := by
          intro v7 H5 s5 h7
          refine ⟨_, rfl, fun pr e => ?_⟩
          rw [highPs_at hi2] at e
          cases q9 : lk fb i with
          | none => rw [q9] at e; cases e; exact h7 q9
          | some v => rw [q9] at e; cases e; exact rfl
        have fin : ∀ (v7 : V) (H5 : Hp), Same H' H5 → (lk fb i = none → PrV H5 v7 (if i ∈ ks f then .closed else .no)) → ∃ (acc' : List V) (x6 x7 : Option V), [some (.ref p), some (.ref a), some .non, some (.ref db), some (.ref da), some (.ref l), some (.int (i : Int)), some v7] = [some (.ref p), some (.ref a), some .non, some (.ref db), some (.ref da), some (.ref l), x6, x7] ∧ Same H (upd H5 l (.lst (acc ++ [((lk fb i).map V.int).getD v7]))) ∧ Same H2 (upd H5 l (.lst (acc ++ [((lk fb i).map V.int).getD v7]))) ∧ upd H5 l (.lst (acc ++ [((lk fb i).map V.int).getD v7])) l = some (.lst acc') ∧ acc'.length = i + 1 ∧ ∀ (j : Nat) (v : V) (pr : Price), acc'[j]? = some v → (highPs rs.length fb f)[j]? = some pr → PrV (upd H5 l (.lst (acc ++ [((lk fb i).map V.int).getD v7]))) v pr := by
          intro v7 H5 s5 h7
          have nu : NL H5 (upd H5 l (.lst (acc ++ [((lk fb i).map V.int).getD v7]))) := NL.upd (s5 _ _ el4)
          have prn : ∀ {v : V} {pr : Price}, PrV H5 v pr → PrV (upd H5 l (.lst (acc ++ [((lk fb i).map V.int).getD v7]))) v pr := fun {v pr} h => by
            cases pr with
            | no => exact h
            | closed => obtain ⟨u, b1, b2⟩ := h; exact ⟨u, b1, nu.tup b2⟩
            | int z => exact h
          refine ⟨_, _, _, rfl, same_mut (s4.trans s5) nl0, same_mut (s24.trans s5) nl, upd_same, by rw [List.length_append, len]; rfl, fun j v pr e1 e2 => ?_⟩
          rcases snoc_get e1 with z | ⟨z1, z2⟩
          · exact prn ((hpr j v pr z e2).same s5)
          · rw [len] at z1
            subst z1
            obtain ⟨v9, r1, r2⟩ := rest v7 H5 s5 h7
            rw [← r1] at r2
            rw [z2]
            exact prn (r2 pr e2)
        have lacc : acc.length < sizeLine := szl (by omega)
        cases q5 : lk f i with
        | some v =>
          refine ⟨true, rfl, by show 0 ≤ sizeLine; decide, fun tc ntc => ?_⟩
          have s5 := same_new (H := H') (o := .tup []) ntc
          have etc : upd H' tc (.tup []) tc = some (.tup []) := upd_same
          generalize upd H' tc (.tup []) = H5 at *
          refine ⟨_, rfl, .inl ⟨rfl, _, sqL (s5 _ _ el4)⟩, _, rfl, db, rfl, .inl ⟨_, .inl (s5 _ _ (s24 _ _ eb))⟩, _, rfl, _, rfl, _, dgN (s5 _ _ (s24 _ _ eb)) i, l, _, _, rfl, rfl, s5 _ _ el4, lacc, ?_⟩
          exact fin (.ref tc) H5 s5 (fun _ => by rw [if_pos (lk_ks q5)]; exact ⟨tc, rfl, etc⟩)
        | none =>
          refine ⟨false, rfl, ?_⟩
          refine ⟨_, rfl, .inl ⟨rfl, _, sqL el4⟩, _, rfl, db, rfl, .inl ⟨_, .inl (s24 _ _ eb)⟩, _, rfl, _, rfl, _, dgN (s24 _ _ eb) i, l, _, _, rfl, rfl, el4, lacc, ?_⟩
          exact fin .non H' (Same.refl _) (fun _ => by rw [if_neg (lk_none.mp q5)]; exact rfl)
      · rintro σ H' ⟨acc, x6, x7, rfl, s4, s24, el4, len, hpr⟩
        obtain ⟨B, hB⟩ := lk_some (mo.all other hok2)
        have kl9 := nd_len mo.ord.nd (fun z hz => Rc.lt g a9 ((a11 z).mp ((mo.ord.mem z).mp hz)).1)
        refine ⟨_, rfl, _, rfl, a, _, dx, fs, _, rfl, s4 _ _ a1, T.cl, T.a_other, a3, db, _, rfl, dgS (s24 _ _ eb) hB, ?_⟩
        refine ⟨_, rfl, _, rfl, a, _, dx, fs, _, rfl, s4 _ _ a1, T.cl, T.a_one, a2, _, rfl, a, _, dx, fs, _, rfl, s4 _ _ a1, T.cl, T.a_other, a3, ?_⟩
        refine ⟨da, fa, one, other, 0, fun x y => y ∈ bh G wt (other : Int) x ∧ gv fb y = gv fb x + pk 1 (ew G x y), fun x => x ∈ ks fb, fun x => ixN x od, rfl, s24 _ _ ea, fun x hx hxo => mo.step hx hxo, lk_ks hB, ?_, fun H5 tw w s5 etw ew0 ewl ewc ewg => ?_⟩
        · have := ixN_lt ((mo.ord.mem other).mpr hok2)
          show ixN other od ≤ 10000
          omega
        · refine ⟨_, rfl, l, _, rfl, .inl ⟨sqL (s5 _ _ el4), fun tp ntp => ?_⟩⟩
          have s6 := s5.trans (same_new (o := .tup acc) ntp)
          have etp : upd H5 tp (.tup acc) tp = some (.tup acc) := upd_same
          have etw6 := same_t (same_new (o := .tup acc) ntp) etw
          generalize upd H5 tp (.tup acc) = H6 at *
          refine ⟨by show 4 ≤ sizeLine; decide, fun tt ntt => ?_⟩
          have s7 := s6.trans (same_new (o := .tup [.str ("most" : Str), .int B, .ref tw, .ref tp]) ntt)
          have s67 := same_new (o := .tup [.str ("most" : Str), .int B, .ref tw, .ref tp]) ntt
          refine q _ tt (.most B w (highPs rs.length fb f)) (s4.trans s7) ⟨tw, tp, sqT upd_same, same_t s67 etw6, acc, sqT (s67 _ _ etp), by unfold highPs; rw [List.length_map, List.length_range, len]; omega, fun i v pr e1 e2 => (hpr i v pr e1 e2).same s7⟩ (high_ok g a9 ho hne mo a8 a11 hB ew0 ewl ewc ewg)
    · refine ⟨_, rfl, rfl, true, rfl, ?_⟩
      exact ⟨_, rfl, _, rfl, a, x, rs.length, G, wt, one, other, f, kp, rfl, hs.same s1, hne, hx, hr9, fun H2 t c u s2 hat hok => q _ t _ (s1.trans s2) hat hok⟩
end
end B65

end

section
set_option Elab.async false
set_option linter.all false
set_option maxRecDepth 100000
set_option maxHeartbeats 1000000
namespace B65
open PySem PySem.Spec PyProof.Rows L2
section
variable {P : Program} {w : World} {K : PySem.W.Frag} {mg : Str → Option Value} {base : Heap}
/-- all but instances stands as before -/
def NI (H H' : Hp) : Prop := ∀ b o, H b = some o → (∀ C dx fs, o ≠ .ins C dx fs) → H' b = some o
theorem NI.of {H H' : Hp} (s : Same H H') : NI H H' := fun b o e _ => s b o e
theorem NI.trans {H H1 H2 : Hp} (a : NI H H1) (b : NI H1 H2) : NI H H2 := fun c o e n => b c o (a c o e n) n
theorem NI.upd {H : Hp} {a C dx : Addr} {fs : List (Str × V)} {o : HO} (h : H a = some (.ins C dx fs)) : NI H (upd H a o) := fun b u e n => by
  rw [upd_ne fun z => by
    rw [z, h] at e
    exact n _ _ _ (Option.some.inj e).symm]
  exact e
theorem NI.tup {H H' : Hp} (s : NI H H') {t : Addr} {xs : List V} (h : H t = some (.tup xs)) : H' t = some (.tup xs) := s _ _ h fun _ _ _ z => by cases z
theorem NI.lst {H H' : Hp} (s : NI H H') {t : Addr} {xs : List V} (h : H t = some (.lst xs)) : H' t = some (.lst xs) := s _ _ h fun _ _ _ z => by cases z
theorem NI.dK {H H' : Hp} (s : NI H H') {t : Addr} {xs : List (Key × V)} (h : H t = some (.dK xs)) : H' t = some (.dK xs) := s _ _ h fun _ _ _ z => by cases z
theorem NI.prog {H H' : Hp} (s : NI H H') {p : Addr} {rs : List Row} (h : ProgAt H p rs) : ProgAt H' p rs := by
  obtain ⟨as, h1, h2, h3⟩ := h
  exact ⟨as, s.tup h1, h2, fun i r e => let ⟨a, e1, e2⟩ := h3 i r e; ⟨a, e1, s.tup e2⟩⟩
theorem NI.steps {H H' : Hp} (s : NI H H') {st : Addr} {n : Nat} {G : Nat → List Edge} (x : StepsAt H st n G) : StepsAt H' st n G := by
  obtain ⟨ds, h1, h2, h3⟩ := x
  refine ⟨ds, s.lst h1, h2, fun i hi => ?_⟩
  obtain ⟨d, es, a, b, kvs, c1, c2, c3⟩ := h3 i hi
  exact ⟨d, es, a, b, kvs, s.dK c1, c2, fun j e q => let ⟨t, u, v⟩ := c3 j e q; ⟨t, u, s.tup v⟩⟩
theorem putF_len (f : Str) (v : V) : ∀ fs : List (Str × V), (putF f v fs).length ≤ fs.length + 1
  | [] => Nat.le_refl _
  | (g, x) :: r => by
    show (if g = f then (g, v) :: r else (g, x) :: putF f v r).length ≤ r.length + 1 + 1
    split
    · exact Nat.le_succ _
    · exact Nat.succ_le_succ (putF_len f v r)
def sp_Seeker___init__ (K : PySem.W.Frag) : Sp := fun vs H Q _ => ∃ (a p dx : Addr) (rs : List Row) (b : Int) (wt : Nat → Bool) (one other : Nat), vs = [.ref a, .ref p, .int b, .int (one : Int), .int (other : Int)] ∧ H a = some (.ins (He.ga K "Seeker") dx []) ∧ ProgAt H p rs ∧ PO rs b ∧ Waits rs wt ∧ GraOk (nxOf b rs) rs.length ∧ one < rs.length ∧ other < rs.length ∧ ∀ H' f kp, SB a H H' → SeekF K H' a rs.length (nxOf b rs) wt one other f kp → Q .non H'
theorem sc_Seeker___init__ : FnScope ["self", "program", "base", "one", "other", "row"] ["self", "program", "base", "one", "other"] (defScope (inClass (topS 56) 0)) := ⟨rfl, rfl, rfl, by decide +kernel, rfl, by decide +kernel, by decide +kernel⟩
theorem ok_Seeker___init__ (T : Txt K mg) : OkM P w K mg base 7 "__init__" ["self", "program", "base", "one", "other"] (sp_Seeker___init__ K) := by
  obtain ⟨fd, F⟩ := T.d_Seeker___init__
  obtain ⟨fd_all_steps, G_all_steps, kp_all_steps, b_all_steps⟩ := ok_all_steps (P := P) (w := w) (base := base) T
  obtain ⟨fd_is_wait, G_is_wait, kp_is_wait, b_is_wait⟩ := ok_is_wait (P := P) (w := w) (base := base) T
  obtain ⟨fd_Seeker_met_from, G_Seeker_met_from, kp_Seeker_met_from, b_Seeker_met_from⟩ := ok_Seeker_met_from (P := P) (w := w) (base := base) T
  refine ⟨fd, F.ok sc_Seeker___init__ (fun vs H Q E h => ?_) (fun cdv A outer s H vs Q E hr h => ?_), F.kp, F.bindsN fun _ _ _ _ _ _ us hl => match us, hl with | [_, _, _, _, _], _ => rfl⟩
  · obtain ⟨a, p, dx, rs, b, wt, one, other, rfl, _⟩ := h
    rfl
  · obtain ⟨a, p, dx, rs, b, wt, one, other, rfl, ha, hp, po, hw, g, h1, h2, q⟩ := h
    have hu := hu_of hr
    refine ⟨_, PSs.nox (pss_cons (ps_fld (pv 0) (pv 3) rfl)
      (pss_cons (ps_fld (pv 0) (pv 4) rfl)
      (pss_cons (ps_fld (pv 0) (pe_call G_all_steps hr (by rfl) T.g_all_steps kp_all_steps b_all_steps .nil pass0 (pa_cons (pv 1) (pa_cons (pv 2) pa_nil))) rfl)
      (pss_cons (ps_fld (pv 0) (pe_lc (own := [("row", 5)]) rfl sc_Seeker___init__.nd (pi_range1 (by rfl) T.z_range (pa_cons (pe_callB call_len_seq (by rfl) T.z_len (by decide +kernel) (pa_cons (pv 1) pa_nil)) pa_nil)) (blkOk_by (N := ["self", "program", "base", "one", "other", "row"]) (sc := defScope (inClass (topS 56) 0)) (by decide +kernel)) (fun _ _ _ _ _ => (pg_name (i := 5) sc_Seeker___init__.nd rfl (by first | exact Or.inl rfl | exact Or.inr rfl))) (fun _ _ _ _ _ => pts_nil) (fun _ _ _ _ _ => (pe_call G_is_wait (hr.mono (by decide)) (by rfl) T.g_is_wait kp_is_wait b_is_wait .nil pass0 (pa_cons (pv 1) (pa_cons (pv 5) pa_nil))))) rfl)
      (pss_cons (ps_fld (pv 0) (pe_meth (pv 0) T.cl T.m_met_from G_Seeker_met_from (hr.mono (by decide)) b_Seeker_met_from .nil pass0 (pa_cons (pv 3) pa_nil)) rfl)
      (pss_one (ps_fld (pv 0) (pe_lock (pe_lc (own := [("row", 5)]) rfl sc_Seeker___init__.nd (pi_keys (pe_fld (pv 0) rfl)) (blkOk_by (N := ["self", "program", "base", "one", "other", "row"]) (sc := defScope (inClass (topS 56) 0)) (by decide +kernel)) (fun _ _ _ _ _ => (pg_name (i := 5) sc_Seeker___init__.nd rfl (by first | exact Or.inl rfl | exact Or.inr rfl))) (fun _ _ _ _ _ => (pts_one (PW.pt (pw_or (pt_cmpR op_eq (pv 5) (pv 4) (nomark _)) (pw_or1 (pt_cmp (pc_din hu (pv 4) (pe_meth (pv 0) T.cl T.m_met_from G_Seeker_met_from (hr.mono (by decide)) b_Seeker_met_from .nil pass0 (pa_cons (pv 5) pa_nil))))))))) (fun _ _ _ _ _ => (pv 5)))) rfl))))))), ?_⟩
    obtain ⟨gg, g1, g2, g3⟩ := po.g
    have n120 := g.n120
    have l0 : ([] : List (Str × V)).length ≤ 0 := Nat.le_refl _
    refine ⟨_, rfl, _, rfl, a, _, dx, _, rfl, ha, T.cl, T.a_one, Nat.lt_of_le_of_lt l0 (by decide), ?_⟩
    have l1 := Nat.le_trans (putF_len ("one" : Str) (.int (one : Int)) []) (Nat.succ_le_succ l0)
    have k1 : ∀ m, (putF ("one" : Str) (.int (one : Int)) []).lookup m = if m = ("one" : Str) then some (.int (one : Int)) else none := fun m => lookup_putF _ _ _ _
    generalize putF ("one" : Str) (.int (one : Int)) [] = fs1 at *
    have e1 : upd H a (.ins (He.ga K "Seeker") dx fs1) a = some (.ins (He.ga K "Seeker") dx fs1) := upd_same
    have n1 := NI.upd (o := .ins (He.ga K "Seeker") dx fs1) ha
    have b1 := SB.upd (d := a) (H := H) (o := .ins (He.ga K "Seeker") dx fs1)
    generalize upd H a (.ins (He.ga K "Seeker") dx fs1) = H1 at *
    refine ⟨_, rfl, _, rfl, a, _, dx, _, rfl, e1, T.cl, T.a_other, Nat.lt_of_le_of_lt l1 (by decide), ?_⟩
    have l2 := Nat.le_trans (putF_len ("other" : Str) (.int (other : Int)) fs1) (Nat.succ_le_succ l1)
    have k2 : ∀ m, (putF ("other" : Str) (.int (other : Int)) fs1).lookup m = if m = ("other" : Str) then some (.int (other : Int)) else if m = ("one" : Str) then some (.int (one : Int)) else none := fun m => by rw [lookup_putF, k1]
    generalize putF ("other" : Str) (.int (other : Int)) fs1 = fs2 at *
    have e2 : upd H1 a (.ins (He.ga K "Seeker") dx fs2) a = some (.ins (He.ga K "Seeker") dx fs2) := upd_same
    have n2 := n1.trans (NI.upd (o := .ins (He.ga K "Seeker") dx fs2) e1)
    have b2 := b1.trans (SB.upd (d := a) (H := H1) (o := .ins (He.ga K "Seeker") dx fs2))
    generalize upd H1 a (.ins (He.ga K "Seeker") dx fs2) = H2 at *
    refine ⟨_, rfl, _, rfl, p, rs, b, gg, rfl, n2.prog hp, po.l120, po.fit, g2, g1, fun H3 st s3 hst => ?_⟩
    have e3 := s3 _ _ e2
    have n3 := n2.trans (NI.of s3)
    have b3 := b2.trans (SB.of s3)
    refine ⟨_, rfl, a, _, dx, _, rfl, e3, T.cl, T.a_steps, Nat.lt_of_le_of_lt l2 (by decide), ?_⟩
    have l3 := Nat.le_trans (putF_len ("steps" : Str) (.ref st) fs2) (Nat.succ_le_succ l2)
    have k3 : ∀ m, (putF ("steps" : Str) (.ref st) fs2).lookup m = if m = ("steps" : Str) then some (.ref st) else if m = ("other" : Str) then some (.int (other : Int)) else if m = ("one" : Str) then some (.int (one : Int)) else none := fun m => by rw [lookup_putF, k2]
    generalize putF ("steps" : Str) (.ref st) fs2 = fs3 at *
    have e4 : upd H3 a (.ins (He.ga K "Seeker") dx fs3) a = some (.ins (He.ga K "Seeker") dx fs3) := upd_same
    have m4 := NI.upd (o := .ins (He.ga K "Seeker") dx fs3) e3
    have n4 := n3.trans m4
    have b4 := b3.trans (SB.upd (d := a) (H := H3) (o := .ins (He.ga K "Seeker") dx fs3))
    have st4 := m4.steps hst
    generalize upd H3 a (.ins (He.ga K "Seeker") dx fs3) = H4 at *
    obtain ⟨xs, w1, w2, w3⟩ := (n4.prog hp).walk
    refine ⟨_, rfl, p, _, rfl, .inr (sqT w1), _, rfl, by omega, by omega, fun wl nwl => ?_⟩
    refine lc_st walk_rng (fun i acc H' => Same H4 H' ∧ acc = (List.range i).map fun i => V.bl (wt i)) ⟨same_new nwl, rfl⟩ (fun i acc _ _ H' _ ⟨s, e⟩ => ⟨same_mut s nwl, e⟩) (fun _ _ _ _ _ => trivial) (fun i acc H' hi ⟨s, e⟩ => by rw [e, List.length_map, List.length_range]; exact szl (by omega)) (fun i x acc H5 H6 hi eD ⟨s, e⟩ ⟨eH, ex⟩ Qy Qn ky kn => ?_) (fun acc H5 eD ⟨s, e⟩ => ?_)
    · subst eH ex
      have hi2 : i < rs.length := by omega
      obtain ⟨r, er⟩ := row_at hi2
      refine ⟨rfl, _, rfl, _, rfl, p, rs, i, r, rfl, (n4.trans (NI.of s)).prog hp, er, ?_⟩
      refine ky _ _ eD ⟨s, ?_⟩
      rw [e, List.range_succ, List.map_append, ← hw i r er]
      rfl
    have e5 := s _ _ e4
    have n5 := n4.trans (NI.of s)
    have b5 := b4.trans (SB.of s)
    have st5 := st4.same s
    rw [show ((xs.length : Int)).toNat = rs.length by rw [w2]; exact Int.toNat_natCast _] at e
    rw [e] at eD
    refine ⟨_, rfl, a, _, dx, _, rfl, e5, T.cl, T.a_waits, Nat.lt_of_le_of_lt l3 (by decide), ?_⟩
    have l4 := Nat.le_trans (putF_len ("waits" : Str) (.ref wl) fs3) (Nat.succ_le_succ l3)
    have k4 : ∀ m, (putF ("waits" : Str) (.ref wl) fs3).lookup m = if m = ("waits" : Str) then some (.ref wl) else if m = ("steps" : Str) then some (.ref st) else if m = ("other" : Str) then some (.int (other : Int)) else if m = ("one" : Str) then some (.int (one : Int)) else none := fun m => by rw [lookup_putF, k3]
    generalize putF ("waits" : Str) (.ref wl) fs3 = fs4 at *
    have e6 : upd H5 a (.ins (He.ga K "Seeker") dx fs4) a = some (.ins (He.ga K "Seeker") dx fs4) := upd_same
    have m6 := NI.upd (o := .ins (He.ga K "Seeker") dx fs4) e5
    have n6 := n5.trans m6
    have b6 := b5.trans (SB.upd (d := a) (H := H5) (o := .ins (He.ga K "Seeker") dx fs4))
    have st6 := m6.steps st5
    have wl6 := m6.lst eD
    clear e eD s
    generalize upd H5 a (.ins (He.ga K "Seeker") dx fs4) = H6 at *
    have sk6 : SeekAt K H6 a rs.length (nxOf b rs) wt other := ⟨dx, fs4, st, wl, e6, fun m hm => by
        rw [k4]
        simp only [meths, List.mem_cons, List.not_mem_nil, or_false] at hm
        rcases hm with z | z | z | z | z | z | z | z <;> subst z <;> rfl, by rw [k4]; rfl, by rw [k4]; rfl, by rw [k4]; rfl, st6, wl6, g, h2⟩
    refine ⟨_, rfl, a, dx, fs4, rfl, e6, by rw [k4]; rfl, _, rfl, a, one, rs.length, nxOf b rs, wt, other, rfl, sk6, h1, fun H7 md f s7 nmd emd mo => ?_⟩
    have e7 := s7 _ _ e6
    have n7 := NI.of s7
    have b7 := b6.trans (SB.of s7)
    refine ⟨_, rfl, a, _, dx, _, rfl, e7, T.cl, T.a_met, Nat.lt_of_le_of_lt l4 (by decide), ?_⟩
    have l5 := Nat.le_trans (putF_len ("met" : Str) (.ref md) fs4) (Nat.succ_le_succ l4)
    have k5 : ∀ m, (putF ("met" : Str) (.ref md) fs4).lookup m = if m = ("met" : Str) then some (.ref md) else if m = ("waits" : Str) then some (.ref wl) else if m = ("steps" : Str) then some (.ref st) else if m = ("other" : Str) then some (.int (other : Int)) else if m = ("one" : Str) then some (.int (one : Int)) else none := fun m => by rw [lookup_putF, k4]
    generalize putF ("met" : Str) (.ref md) fs4 = fs5 at *
    have e8 : upd H7 a (.ins (He.ga K "Seeker") dx fs5) a = some (.ins (He.ga K "Seeker") dx fs5) := upd_same
    have m8 := NI.upd (o := .ins (He.ga K "Seeker") dx fs5) e7
    have n8 := n7.trans m8
    have b8 := b7.trans (SB.upd (d := a) (H := H7) (o := .ins (He.ga K "Seeker") dx fs5))
    have emd8 := m8.dK emd
    generalize upd H7 a (.ins (He.ga K "Seeker") dx fs5) = H8 at *
    have hma : md ≠ a := ne_of emd8 e8 (fun z => by cases z)
    refine ⟨md, _, emd8, trivial, fun od => ?_⟩
    have eL : upd H8 md (.frz od (.dK (dN f))) a = some (.ins (He.ga K "Seeker") dx fs5) := upd_at e8 hma.symm
    have emL : upd H8 md (.frz od (.dK (dN f))) md = some (.frz od (.dK (dN f))) := upd_same
    have nL : NI H6 (upd H8 md (.frz od (.dK (dN f)))) := fun c o e n => by
      rw [upd_ne (ne_of_none e nmd)]
      exact n8 c o e n
    have fin : ∀ H', Same (upd H8 md (.frz od (.dK (dN f)))) H' → Same H8 (upd H' md (.dK (dN f))) := fun H' s => lockS emd8 s
    have skL : SeekAt K (upd H8 md (.frz od (.dK (dN f)))) a rs.length (nxOf b rs) wt other := ⟨dx, fs5, st, wl, eL, fun m hm => by
        rw [k5]
        simp only [meths, List.mem_cons, List.not_mem_nil, or_false] at hm
        rcases hm with z | z | z | z | z | z | z | z <;> subst z <;> rfl, by rw [k5]; rfl, by rw [k5]; rfl, by rw [k5]; rfl, nL.steps st6, nL.lst wl6, g, h2⟩
    generalize upd H8 md (.frz od (.dK (dN f))) = HL at *
    refine ⟨_, rfl, a, _, dx, fs5, _, rfl, eL, T.cl, T.a_met, by rw [k5]; rfl, md, od, rfl, .inl ⟨_, emL, fun D nD => ?_⟩⟩
    have mlen := mo.len
    have dget : ∀ {i : Nat} {k : Key} {v : V}, (dN f)[i]? = some (k, v) → ∃ x : Nat, (ks f)[i]? = some x ∧ k = Sum.inl (x : Int) := fun {i k v} e => by
      unfold dN at e
      unfold ks
      rw [List.getElem?_map] at e ⊢
      cases q9 : f[i]? with
      | none => rw [q9] at e; cases e
      | some y => rw [q9] at e; cases e; exact ⟨y.1, rfl, rfl⟩
    refine lc_st walk_keys (fun i acc H' => Same HL H' ∧ ∃ l : List Nat, acc = nV l ∧ l.Sublist ((ks f).take i) ∧ ∀ x ∈ (ks f).take i, (x ∈ l ↔ Rc (nxOf b rs) wt (other : Int) x other)) ⟨same_new nD, [], rfl, by simp, fun x hx => by simp at hx⟩ (fun i acc _ _ H' _ ⟨s, e⟩ => ⟨same_mut s nD, e⟩) (fun i acc H' _ ⟨s, _⟩ => s _ _ emL) (fun i acc H' hi ⟨s, l, e, e2, _⟩ => ?_) (fun i x acc H9 H10 hi eD ⟨s, l, e, e2, e3⟩ ⟨eH, k, v, ek, ex⟩ Qy Qn ky kn => ?_) (fun acc H9 eD ⟨s, l, e, e2, e3⟩ => ?_)
    · rw [e, nV_len]
      have := e2.length_le
      rw [List.length_take, ks_len] at this
      exact szl (by omega)
    · subst eH ex
      obtain ⟨x, ex, rfl⟩ := dget ek
      have hxn := mo.lt x (List.mem_of_getElem? ex)
      have et : (ks f).take (i + 1) = (ks f).take i ++ [x] := by rw [List.take_add_one, ex]; rfl
      have nin := not_in_take mo.nd ex
      have yes : Rc (nxOf b rs) wt (other : Int) x other → ∀ H', Same HL H' → Same HL H' ∧ ∃ l : List Nat, acc ++ [V.int (x : Int)] = nV l ∧ l.Sublist ((ks f).take (i + 1)) ∧ ∀ x ∈ (ks f).take (i + 1), (x ∈ l ↔ Rc (nxOf b rs) wt (other : Int) x other) := by
        intro rc H' s'
        refine ⟨s', l ++ [x], by rw [e, nV_app]; rfl, by rw [et]; exact List.Sublist.append e2 (List.Sublist.refl _), fun z hz => ?_⟩
        rw [et] at hz
        rcases List.mem_append.mp hz with m | m
        · rw [List.mem_append]
          refine ⟨fun w => (e3 z m).mp (w.resolve_right fun w2 => ?_), fun w => .inl ((e3 z m).mpr w)⟩
          rw [List.mem_singleton.mp w2] at m
          exact nin m
        · rw [List.mem_singleton.mp m]
          exact ⟨fun _ => rc, fun _ => by simp⟩
      have no : ¬ Rc (nxOf b rs) wt (other : Int) x other → ∀ H', Same HL H' → Same HL H' ∧ ∃ l : List Nat, acc = nV l ∧ l.Sublist ((ks f).take (i + 1)) ∧ ∀ x ∈ (ks f).take (i + 1), (x ∈ l ↔ Rc (nxOf b rs) wt (other : Int) x other) := by
        intro rc H' s'
        refine ⟨s', l, e, by rw [et]; exact e2.trans (List.sublist_append_left _ _), fun z hz => ?_⟩
        rw [et] at hz
        rcases List.mem_append.mp hz with m | m
        · exact e3 z m
        · rw [List.mem_singleton.mp m]
          exact ⟨fun w => absurd (e2.subset w) nin, fun w => absurd w rc⟩
      refine ⟨rfl, _, rfl, _, rfl, rfl, _, rfl, ?_⟩
      by_cases hxo : x = other
      · subst hxo
        rw [show decide (kV (Sum.inl (x : Int)) = V.int (x : Int)) = true from decide_eq_true rfl]
        exact ⟨_, rfl, ky _ _ eD (yes .refl _ s)⟩
      · rw [show decide (kV (Sum.inl (x : Int)) = V.int (other : Int)) = false from decide_eq_false (fun z => hxo (by have := V.int.inj z; omega))]
        refine ⟨_, rfl, _, rfl, a, dx, fs5, rfl, s _ _ eL, by rw [k5]; rfl, _, rfl, a, x, rs.length, nxOf b rs, wt, other, rfl, skL.same s, hxn, fun H11 d f2 s11 nd ed2 mo2 => ⟨d, _, rfl, dgN ed2 other, ?_⟩⟩
        cases q5 : lk f2 other with
        | some v => exact ⟨true, rfl, _, rfl, ky _ _ (s11 _ _ eD) (yes ((mo2.rc other).mp (lk_ks q5)) _ (s.trans s11))⟩
        | none => exact ⟨false, rfl, kn _ (s11 _ _ eD) (no (fun rc => lk_none.mp q5 ((mo2.rc other).mpr rc)) _ (s.trans s11))⟩
    · rw [dN_len, ← ks_len, take_all] at e2 e3
      subst e
      refine ⟨s _ _ emL, ?_⟩
      have hDm : D ≠ md := fun z => by rw [z, emL] at nD; cases nD
      have s9 := fin H9 s
      have e10 := s9 _ _ e8
      have eD2 : upd H9 md (.dK (dN f)) D = some (.lst (nV l)) := upd_at eD hDm
      have emd2 : upd H9 md (.dK (dN f)) md = some (.dK (dN f)) := upd_same
      generalize upd H9 md (.dK (dN f)) = H12 at *
      have n12 := n8.trans (NI.of s9)
      have b12 := b8.trans (SB.of s9)
      refine ⟨_, rfl, a, _, dx, _, rfl, e10, T.cl, T.a_kept, Nat.lt_of_le_of_lt l5 (by decide), ?_⟩
      have k6 : ∀ m, (putF ("kept" : Str) (.ref D) fs5).lookup m = if m = ("kept" : Str) then some (.ref D) else if m = ("met" : Str) then some (.ref md) else if m = ("waits" : Str) then some (.ref wl) else if m = ("steps" : Str) then some (.ref st) else if m = ("other" : Str) then some (.int (other : Int)) else if m = ("one" : Str) then some (.int (one : Int)) else none := fun m => by rw [lookup_putF, k5]
      generalize putF ("kept" : Str) (.ref D) fs5 = fs6 at *
      have e13 : upd H12 a (.ins (He.ga K "Seeker") dx fs6) a = some (.ins (He.ga K "Seeker") dx fs6) := upd_same
      have m13 := NI.upd (o := .ins (He.ga K "Seeker") dx fs6) e10
      have n13 := n12.trans m13
      have b13 := b12.trans (SB.upd (d := a) (H := H12) (o := .ins (He.ga K "Seeker") dx fs6))
      generalize upd H12 a (.ins (He.ga K "Seeker") dx fs6) = H13 at *
      refine q H13 f l b13 ⟨⟨dx, fs6, st, wl, e13, fun m hm => by
        rw [k6]
        simp only [meths, List.mem_cons, List.not_mem_nil, or_false] at hm
        rcases hm with z | z | z | z | z | z | z | z <;> subst z <;> rfl, by rw [k6]; rfl, by rw [k6]; rfl, by rw [k6]; rfl, n13.steps st6, n13.lst wl6, g, h2⟩, dx, fs6, md, D, e13, by rw [k6]; rfl, by rw [k6]; rfl, by rw [k6]; rfl, by rw [k6]; rfl, m13.dK emd2, m13.lst eD2, mo, h1, mo.nd.sublist e2, fun x => ?_⟩
      constructor
      · intro hx
        have m := e2.subset hx
        exact ⟨(mo.rc x).mp m, (e3 x m).mp hx⟩
      · rintro ⟨r1, r2⟩
        have m := (mo.rc x).mpr r1
        exact (e3 x m).mpr r2
def sp_span (K : PySem.W.Frag) : Sp := fun vs H Q _ => ∃ (p : Addr) (rs : List Row) (b : Int) (wt : Nat → Bool) (one other : Nat), vs = [.ref p, .int b, .int (one : Int), .int (other : Int)] ∧ ProgAt H p rs ∧ PO rs b ∧ Waits rs wt ∧ GraOk (nxOf b rs) rs.length ∧ Ends rs one other ∧ Rc (nxOf b rs) wt (other : Int) one other ∧
  ∀ H' t tl th B w ps x, Same H H' → H' t = some (.tup [.ref tl, .ref th]) → PaperAt K H' tl B w ps → PaperOk (nxOf b rs) wt rs.length one other 0 B w ps → HighAt K H' th x → HighOk (nxOf b rs) wt rs.length one other x → Q (.ref t) H'
theorem sc_span : FnScope ["program", "base", "one", "other", "seeker"] ["program", "base", "one", "other"] (defScope (topS 62)) := ⟨rfl, rfl, rfl, by decide +kernel, rfl, by decide +kernel, by decide +kernel⟩
theorem ok_span (T : Txt K mg) : Ok P w K mg base 9 "span" ["program", "base", "one", "other"] (sp_span K) := by
  obtain ⟨fd, F⟩ := T.d_span
  obtain ⟨fd_Seeker___init, G_Seeker___init, kp_Seeker___init, b_Seeker___init⟩ := ok_Seeker___init__ (P := P) (w := w) (base := base) T
  obtain ⟨fd_are_ends, G_are_ends, kp_are_ends, b_are_ends⟩ := ok_are_ends (P := P) (w := w) (base := base) T
  obtain ⟨fd_low_paper, G_low_paper, kp_low_paper, b_low_paper⟩ := ok_low_paper (P := P) (w := w) (base := base) T
  obtain ⟨fd_high_paper, G_high_paper, kp_high_paper, b_high_paper⟩ := ok_high_paper (P := P) (w := w) (base := base) T
  refine ⟨fd, F.ok sc_span (fun vs H Q E h => ?_) (fun cdv A outer s H vs Q E hr h => ?_), F.kp, F.bindsN fun _ _ _ _ _ _ us hl => match us, hl with | [_, _, _, _], _ => rfl⟩
  · obtain ⟨p, rs, b, wt, one, other, rfl, _⟩ := h
    rfl
  · obtain ⟨p, rs, b, wt, one, other, rfl, hp, po, hw, g, he, hrc, q⟩ := h
    have hu := hu_of hr
    refine ⟨_, PSs.nox (pss_cons (ps_set (i := 4) sc_span.nd rfl (by first | exact Or.inl rfl | exact Or.inr rfl) (pe_make T.mkS G_Seeker___init hr (by rfl) T.g_Seeker b_Seeker___init .nil pass0 (pa_cons (pv 0) (pa_cons (pv 1) (pa_cons (pv 2) (pa_cons (pv 3) pa_nil))))))
      (pss_cons (ps_if (PW.pt (pw_or (pt_not (pt_val (pe_call G_are_ends (hr.mono (by decide)) (by rfl) T.g_are_ends kp_are_ends b_are_ends .nil pass0 (pa_cons (pv 0) (pa_cons (pv 2) (pa_cons (pv 3) pa_nil)))))) (pw_or1 (pt_cmp (pc_dnotin hu (pv 3) (pe_fld (pv 4) rfl))))))
      (pss_one ps_never)
      pss_nil)
      (pss_one (ps_ret (pe_tup (pa_cons (pe_call G_low_paper (hr.mono (by decide)) (by rfl) T.g_low_paper kp_low_paper b_low_paper .nil pass0 (pa_cons (pv 0) (pa_cons (pv 4) pa_nil))) (pa_cons (pe_call G_high_paper (hr.mono (by decide)) (by rfl) T.g_high_paper kp_high_paper b_high_paper .nil pass0 (pa_cons (pv 0) (pa_cons (pv 4) pa_nil))) pa_nil))))))), ?_⟩
    have h1 : one < rs.length := by
      obtain ⟨r, er, _⟩ := he.2 one (.inl rfl)
      exact (List.getElem?_eq_some_iff.mp er).1
    have h2 : other < rs.length := Rc.lt g h1 hrc
    refine ⟨_, rfl, _, rfl, _, rfl, _, rfl, fun a dx na nd hne => ?_⟩
    have s1 := (same_new (o := .own a) nd).trans (same_new (H := upd H dx (.own a)) (p := a) (o := .ins (He.ga K "Seeker") dx []) (by rw [upd_ne hne.symm]; exact na))
    refine ⟨a, p, dx, rs, b, wt, one, other, rfl, upd_same, hp.same s1, po, hw, g, h1, h2, fun H1 f kp sb sk => ⟨rfl, ?_⟩⟩
    have s2 : Same H H1 := SB.same s1 na sb
    refine ⟨_, rfl, _, rfl, _, rfl, p, rs, one, other, rfl, hp.same s2, he, fun H2 s3 => ⟨true, rfl, ?_⟩⟩
    have s23 := s2.trans s3
    have sk2 := sk.same s3
    obtain ⟨h0, dx2, fs, md, kl, a1, a2, a3, a4, a5, a6, a7, a8, a9, a10, a11⟩ := id sk2
    obtain ⟨v, hv⟩ := lk_some ((a8.rc other).mpr hrc)
    refine ⟨_, rfl, _, rfl, a, _, dx2, fs, _, rfl, a1, T.cl, T.a_met, a4, md, _, rfl, dgS a6 hv, false, rfl, ?_⟩
    refine ⟨_, rfl, _, rfl, p, a, rs, nxOf b rs, wt, one, other, f, kp, rfl, hp.same s23, sk2, he.1, hrc, fun H3 tl B w ps s4 pa pok => ?_⟩
    have s234 := s23.trans s4
    refine ⟨_, rfl, _, rfl, p, a, rs, nxOf b rs, wt, one, other, f, kp, rfl, hp.same s234, sk2.same s4, he.1, hrc, fun H4 th x s5 ha hok => ?_⟩
    refine ⟨by show 2 ≤ sizeLine; decide, fun t nt => ?_⟩
    have s6 := same_new (o := .tup [.ref tl, .ref th]) nt
    exact q _ t tl th B w ps x ((s234.trans s5).trans s6) upd_same (pa.same (s5.trans s6)) pok (ha.same s6) hok
end
end B65

end

section
set_option Elab.async false
set_option linter.all false
set_option maxRecDepth 100000
set_option maxHeartbeats 1000000
namespace B65
open PySem PySem.Spec PyProof.Rows L2
section
variable {P : Program} {w : World} {K : PySem.W.Frag} {mg : Str → Option Value} {base : Heap}
/-! ### decks -/
def DeckAt (H : Hp) (d : Addr) : Prop := ∃ ns : List Int, H d = some (.lst (ns.map V.int))
theorem DeckAt.same {H H' : Hp} {d : Addr} (s : Same H H') (h : DeckAt H d) : DeckAt H' d := let ⟨ns, e⟩ := h; ⟨ns, s _ _ e⟩
def sp_law_next : Sp := fun vs H Q _ => ∃ d : Addr, vs = [.ref d] ∧ DeckAt H d ∧ ∀ H' (x : Int), SB d H H' → DeckAt H' d → Q (.int x) H'
theorem sc__law_next : FnScope ["_law_deck_here"] ["_law_deck_here"] (defScope (topS 66)) := ⟨rfl, rfl, rfl, by decide +kernel, rfl, by decide +kernel, by decide +kernel⟩
theorem ok__law_next (T : Txt K mg) : Ok P w K mg base 1 "_law_next" ["_law_deck_here"] (sp_law_next) := by
  obtain ⟨fd, F⟩ := T.d__law_next
  refine ⟨fd, F.ok sc__law_next (fun vs H Q E h => ?_) (fun cdv A outer s H vs Q E hr h => ?_), F.kp, F.bindsN fun _ _ _ _ _ _ us hl => match us, hl with | [_], _ => rfl⟩
  · obtain ⟨d, rfl, _⟩ := h
    rfl
  · obtain ⟨d, rfl, hd, q⟩ := h
    have hu := hu_of hr
    refine ⟨_, PSs.nox (pss_cons (ps_if (pt_cmpR op_gt (pe_callB call_len_seq (by rfl) T.z_len (by decide +kernel) (pa_cons (pv 0) pa_nil)) pe_int (nomark _))
      (pss_one (ps_ret (pe_bm0 PySem.F.plainAttrs_list PySem.F.slot_list_pop PySem.F.type_list_pop mt_pop (pv 0))))
      pss_nil)
      (pss_one (ps_ret pe_int))), ?_⟩
    obtain ⟨ns, e⟩ := id hd
    refine ⟨_, rfl, d, _, rfl, .inl (sqL e), _, _, rfl, rfl, _, rfl, ite2 (fun z => ?_) (fun z => ?_)⟩
    · have hl : 0 < ns.length := by
        have := of_decide_eq_true z
        rw [List.length_map] at this
        omega
      have en : (ns.map V.int)[(ns.map V.int).length - 1]? = some (.int (ns[ns.length - 1]'(by omega))) := by
        rw [List.length_map, List.getElem?_map, List.getElem?_eq_getElem (by omega)]
        rfl
      refine ⟨_, rfl, .inl ⟨rfl, _, sqL e⟩, d, _, _, rfl, rfl, e, en, ?_⟩
      exact q _ _ SB.upd ⟨ns.dropLast, by rw [upd_same, List.map_dropLast]⟩
    · exact q _ 0 (SB.refl _ _) hd
def sp_law_mixed : Sp := fun vs H Q _ => ∃ c k : Int, vs = [.int c, .int k] ∧ 0 ≤ k ∧ k ≤ 100000 ∧ ∀ x : Int, Q (.int x) H
theorem sc__law_mixed : FnScope ["_law_cell", "_law_k", "_law_number"] ["_law_cell", "_law_k"] (defScope (topS 64)) := ⟨rfl, rfl, rfl, by decide +kernel, rfl, by decide +kernel, by decide +kernel⟩
theorem ok__law_mixed (T : Txt K mg) : Ok P w K mg base 1 "_law_mixed" ["_law_cell", "_law_k"] (sp_law_mixed) := by
  obtain ⟨fd, F⟩ := T.d__law_mixed
  refine ⟨fd, F.ok sc__law_mixed (fun vs H Q E h => ?_) (fun cdv A outer s H vs Q E hr h => ?_), F.kp, F.bindsN fun _ _ _ _ _ _ us hl => match us, hl with | [_, _], _ => rfl⟩
  · obtain ⟨c, k, rfl, _⟩ := h
    rfl
  · obtain ⟨c, k, rfl, h1, h2, q⟩ := h
    have hu := hu_of hr
    refine ⟨_, PSs.nox (pss_cons (ps_set (i := 2) sc__law_mixed.nd rfl (by first | exact Or.inl rfl | exact Or.inr rfl) (pe_op op_mod (pe_op op_add (pe_op op_add (pv 0) (pe_op op_mul (pe_op op_mul (pv 1) (pv 1)) pe_int)) pe_int) pe_int))
      (pss_cons (ps_set (i := 2) sc__law_mixed.nd rfl (by first | exact Or.inl rfl | exact Or.inr rfl) (pe_op op_mod (pe_op op_mul (pv 2) (pv 2)) pe_int))
      (pss_cons (ps_set (i := 2) sc__law_mixed.nd rfl (by first | exact Or.inl rfl | exact Or.inr rfl) (pe_op op_mod (pe_op op_mul (pe_op op_add (pe_op op_add (pv 2) (pe_op op_mul (pv 1) pe_int)) pe_int) pe_int) pe_int))
      (pss_one (ps_ret (pe_op op_fdiv (pe_op op_mod (pe_op op_mul (pv 2) (pv 2)) pe_int) pe_int)))))), ?_⟩
    have md : ∀ x : Int, 0 ≤ x % 2305843009213693951 ∧ x % 2305843009213693951 < 2305843009213693951 := fun x => ⟨Int.emod_nonneg _ (by decide), Int.emod_lt_of_pos _ (by decide)⟩
    refine ⟨_, rfl, _, rfl, _, rfl, _, _, rfl, rfl, .inl ⟨by omega, by omega⟩, _, _, rfl, rfl, .inr ⟨by decide, by decide⟩, _, _, rfl, rfl, _, _, rfl, rfl, _, _, rfl, rfl, (by show (0 : Int) < _; decide), ?_⟩
    obtain ⟨b1, b2⟩ := md (c + k * k * 40503 + 12345)
    generalize (c + k * k * 40503 + 12345) % 2305843009213693951 = x1 at *
    refine ⟨_, rfl, _, rfl, _, _, rfl, rfl, .inl ⟨by omega, by omega⟩, _, _, rfl, rfl, (by show (0 : Int) < _; decide), ?_⟩
    obtain ⟨b3, b4⟩ := md (x1 * x1)
    generalize x1 * x1 % 2305843009213693951 = x2 at *
    refine ⟨_, rfl, _, rfl, _, _, rfl, rfl, .inr ⟨by decide, by decide⟩, _, _, rfl, rfl, _, _, rfl, rfl, _, _, rfl, rfl, .inr ⟨by decide, by decide⟩, _, _, rfl, rfl, (by show (0 : Int) < _; decide), ?_⟩
    obtain ⟨b5, b6⟩ := md ((x2 + k * 7919 + 1) * 48271)
    generalize (x2 + k * 7919 + 1) * 48271 % 2305843009213693951 = x3 at *
    refine ⟨_, rfl, _, rfl, _, _, rfl, rfl, .inl ⟨by omega, by omega⟩, _, _, rfl, rfl, (by show (0 : Int) < _; decide), _, _, rfl, rfl, ⟨by decide, by decide⟩, ?_⟩
    exact q _
def deedsL : List Str := ["set", "test", "setx", "get", "put", "add", "sub", "mask", "flip", "getx", "putx", "lay", "take", "half", "twice", "up", "down", "tox", "toa", "rest", "idle", "wait", "go", "ifz", "ifn", "ifc", "ifd", "at", "door", "eye", "data"]
def sp_law_deeds : Sp := fun vs H Q _ => vs = [] ∧ ∀ H' l, Same H H' → H l = none → H' l = some (.lst (deedsL.map V.str)) → Q (.ref l) H'
theorem sc__law_deeds : FnScope ["_law_first"] [] (defScope (topS 67)) := ⟨rfl, rfl, rfl, by decide +kernel, rfl, by decide +kernel, by decide +kernel⟩
theorem ok__law_deeds (T : Txt K mg) : Ok P w K mg base 1 "_law_deeds" [] (sp_law_deeds) := by
  obtain ⟨fd, F⟩ := T.d__law_deeds
  refine ⟨fd, F.ok sc__law_deeds (fun vs H Q E h => ?_) (fun cdv A outer s H vs Q E hr h => ?_), F.kp, F.bindsN fun _ _ _ _ _ _ us hl => match us, hl with | [], _ => rfl⟩
  · obtain ⟨rfl, _⟩ := h
    rfl
  · obtain ⟨rfl, q⟩ := h
    have hu := hu_of hr
    refine ⟨_, PSs.nox (pss_cons (ps_set (i := 0) sc__law_deeds.nd rfl (by first | exact Or.inl rfl | exact Or.inr rfl) (pe_lst (pa_cons pe_str (pa_cons pe_str (pa_cons pe_str (pa_cons pe_str (pa_cons pe_str (pa_cons pe_str (pa_cons pe_str (pa_cons pe_str (pa_cons pe_str (pa_cons pe_str (pa_cons pe_str (pa_cons pe_str (pa_cons pe_str pa_nil)))))))))))))))
      (pss_cons (ps_set (i := 0) sc__law_deeds.nd rfl (by first | exact Or.inl rfl | exact Or.inr rfl) (pe_op op_cat (pv 0) (pe_lst (pa_cons pe_str (pa_cons pe_str (pa_cons pe_str (pa_cons pe_str (pa_cons pe_str (pa_cons pe_str (pa_cons pe_str (pa_cons pe_str (pa_cons pe_str pa_nil))))))))))))
      (pss_one (ps_ret (pe_op op_cat (pv 0) (pe_lst (pa_cons pe_str (pa_cons pe_str (pa_cons pe_str (pa_cons pe_str (pa_cons pe_str (pa_cons pe_str (pa_cons pe_str (pa_cons pe_str (pa_cons pe_str pa_nil))))))))))))))), ?_⟩
    refine ⟨by show 13 ≤ sizeLine; decide, fun l1 n1 => ?_⟩
    have s1 := same_new (o := .lst [V.str "set", V.str "test", V.str "setx", V.str "get", V.str "put", V.str "add", V.str "sub", V.str "mask", V.str "flip", V.str "getx", V.str "putx", V.str "lay", V.str "take"]) n1
    have e1 : upd H l1 (.lst [V.str "set", V.str "test", V.str "setx", V.str "get", V.str "put", V.str "add", V.str "sub", V.str "mask", V.str "flip", V.str "getx", V.str "putx", V.str "lay", V.str "take"]) l1 = some (.lst [V.str "set", V.str "test", V.str "setx", V.str "get", V.str "put", V.str "add", V.str "sub", V.str "mask", V.str "flip", V.str "getx", V.str "putx", V.str "lay", V.str "take"]) := upd_same
    generalize upd H l1 (.lst [V.str "set", V.str "test", V.str "setx", V.str "get", V.str "put", V.str "add", V.str "sub", V.str "mask", V.str "flip", V.str "getx", V.str "putx", V.str "lay", V.str "take"]) = H1 at *
    refine ⟨_, rfl, by show 9 ≤ sizeLine; decide, fun l2 n2 => ?_⟩
    have t2 := same_new (o := .lst [V.str "half", V.str "twice", V.str "up", V.str "down", V.str "tox", V.str "toa", V.str "rest", V.str "idle", V.str "wait"]) n2
    have e2 : upd H1 l2 (.lst [V.str "half", V.str "twice", V.str "up", V.str "down", V.str "tox", V.str "toa", V.str "rest", V.str "idle", V.str "wait"]) l2 = some (.lst [V.str "half", V.str "twice", V.str "up", V.str "down", V.str "tox", V.str "toa", V.str "rest", V.str "idle", V.str "wait"]) := upd_same
    have s2 := s1.trans t2
    have e1' := t2 _ _ e1
    generalize upd H1 l2 (.lst [V.str "half", V.str "twice", V.str "up", V.str "down", V.str "tox", V.str "toa", V.str "rest", V.str "idle", V.str "wait"]) = H2 at *
    refine ⟨l1, l2, _, _, rfl, rfl, e1', e2, by show 22 ≤ sizeLine; decide, fun l3 n3 => ?_⟩
    have t3 := same_new (o := .lst ([V.str "set", V.str "test", V.str "setx", V.str "get", V.str "put", V.str "add", V.str "sub", V.str "mask", V.str "flip", V.str "getx", V.str "putx", V.str "lay", V.str "take"] ++ [V.str "half", V.str "twice", V.str "up", V.str "down", V.str "tox", V.str "toa", V.str "rest", V.str "idle", V.str "wait"])) n3
    have e3 : upd H2 l3 (.lst ([V.str "set", V.str "test", V.str "setx", V.str "get", V.str "put", V.str "add", V.str "sub", V.str "mask", V.str "flip", V.str "getx", V.str "putx", V.str "lay", V.str "take"] ++ [V.str "half", V.str "twice", V.str "up", V.str "down", V.str "tox", V.str "toa", V.str "rest", V.str "idle", V.str "wait"])) l3 = some (.lst ([V.str "set", V.str "test", V.str "setx", V.str "get", V.str "put", V.str "add", V.str "sub", V.str "mask", V.str "flip", V.str "getx", V.str "putx", V.str "lay", V.str "take"] ++ [V.str "half", V.str "twice", V.str "up", V.str "down", V.str "tox", V.str "toa", V.str "rest", V.str "idle", V.str "wait"])) := upd_same
    have s3 := s2.trans t3
    generalize upd H2 l3 (.lst ([V.str "set", V.str "test", V.str "setx", V.str "get", V.str "put", V.str "add", V.str "sub", V.str "mask", V.str "flip", V.str "getx", V.str "putx", V.str "lay", V.str "take"] ++ [V.str "half", V.str "twice", V.str "up", V.str "down", V.str "tox", V.str "toa", V.str "rest", V.str "idle", V.str "wait"])) = H3 at *
    refine ⟨_, rfl, by show 9 ≤ sizeLine; decide, fun l4 n4 => ?_⟩
    have t4 := same_new (o := .lst [V.str "go", V.str "ifz", V.str "ifn", V.str "ifc", V.str "ifd", V.str "at", V.str "door", V.str "eye", V.str "data"]) n4
    have e4 : upd H3 l4 (.lst [V.str "go", V.str "ifz", V.str "ifn", V.str "ifc", V.str "ifd", V.str "at", V.str "door", V.str "eye", V.str "data"]) l4 = some (.lst [V.str "go", V.str "ifz", V.str "ifn", V.str "ifc", V.str "ifd", V.str "at", V.str "door", V.str "eye", V.str "data"]) := upd_same
    have s4 := s3.trans t4
    have e3' := t4 _ _ e3
    generalize upd H3 l4 (.lst [V.str "go", V.str "ifz", V.str "ifn", V.str "ifc", V.str "ifd", V.str "at", V.str "door", V.str "eye", V.str "data"]) = H4 at *
    exact ⟨l3, l4, _, _, rfl, rfl, e3', e4, by show 31 ≤ sizeLine; decide, fun l5 n5 => q _ l5 (s4.trans (same_new n5)) (none_of s4 n5) upd_same⟩
def longA (a : Nat) : Int := if (13 ≤ a ∧ a < 22) ∨ a = 30 then 1 else 2
def beatsL : List Int := [2, 2, 2, 3, 3, 3, 3, 3, 3, 3, 3, 4, 4, 2, 2, 2, 2, 2, 2, 2, 3, 2, 3, 2, 2, 2, 2, 4, 3, 3, 0]
theorem ge13 {a : Nat} {b : Bool} (h : decide (13 ≤ a) = b) : decide ((13 : Int) ≤ (a : Int)) = b := by
  rw [← h]
  by_cases z : 13 ≤ a
  · rw [decide_eq_true z, decide_eq_true (by omega)]
  · rw [decide_eq_false z, decide_eq_false (by omega)]
theorem lt22 {a k : Nat} {b : Bool} (h : decide (a < k) = b) : decide ((a : Int) < (k : Int)) = b := by
  rw [← h]
  by_cases z : a < k
  · rw [decide_eq_true z, decide_eq_true (by omega)]
  · rw [decide_eq_false z, decide_eq_false (by omega)]
theorem eqk {a k : Nat} {b : Bool} (h : decide (a = k) = b) : decide (V.int (a : Int) = V.int (k : Int)) = b := by
  rw [← h, bl_int]
  by_cases z : a = k
  · rw [decide_eq_true z, decide_eq_true (by omega)]
  · rw [decide_eq_false z, decide_eq_false (by omega)]
def sp_law_long : Sp := fun vs H Q _ => ∃ a : Nat, vs = [.int (a : Int)] ∧ a < 31 ∧ ∀ H', Same H H' → Q (.int (longA a)) H'
theorem sc__law_long : FnScope ["_law_at"] ["_law_at"] (defScope (topS 69)) := ⟨rfl, rfl, rfl, by decide +kernel, rfl, by decide +kernel, by decide +kernel⟩
theorem ok__law_long (T : Txt K mg) : Ok P w K mg base 1 "_law_long" ["_law_at"] (sp_law_long) := by
  obtain ⟨fd, F⟩ := T.d__law_long
  refine ⟨fd, F.ok sc__law_long (fun vs H Q E h => ?_) (fun cdv A outer s H vs Q E hr h => ?_), F.kp, F.bindsN fun _ _ _ _ _ _ us hl => match us, hl with | [_], _ => rfl⟩
  · obtain ⟨a, rfl, _⟩ := h
    rfl
  · obtain ⟨a, rfl, ha, q⟩ := h
    have hu := hu_of hr
    refine ⟨_, PSs.nox (pss_one (ps_ret (pe_ix ix_list (pe_lst (pa_cons pe_int (pa_cons pe_int pa_nil))) (pe_callTy call_int1 (by rfl) T.z_int (by decide +kernel) (pa_cons (pe_or (pe_chain op_le op_lt pe_int (pv 0) pe_int) (pe_one (pe_cmpR op_eq (pv 0) pe_int (nomark _)))) pa_nil)) (fun _ _ => rfl)))), ?_⟩
    refine ⟨by show 2 ≤ sizeLine; decide, fun l nl => ?_⟩
    have s1 := same_new (o := .lst [.int 2, .int 1]) nl
    have e1 : upd H l (.lst [.int 2, .int 1]) l = some (.lst [.int 2, .int 1]) := upd_same
    generalize upd H l (.lst [.int 2, .int 1]) = H1 at *
    have at0 : ∀ k : Bool, (k = true ↔ (13 ≤ a ∧ a < 22) ∨ a = 30) → atI [V.int 2, V.int 1] (if k = true then 1 else 0) = some (.int (longA a)) := by
      intro k hk
      unfold longA
      cases k with
      | true => rw [if_pos (hk.mp rfl)]; rfl
      | false => rw [if_neg (fun z => Bool.noConfusion (hk.mpr z))]; rfl
    by_cases h1 : 13 ≤ a
    · refine ⟨_, rfl, _, _, rfl, rfl, true, congrArg V.bl (ge13 (decide_eq_true h1)), ?_⟩
      by_cases h2 : a < 22
      · refine ⟨_, _, rfl, rfl, true, congrArg V.bl (lt22 (k := 22) (decide_eq_true h2)), ?_⟩
        exact .inr ⟨true, rfl, l, _, _, _, rfl, rfl, sqL e1, at0 true ⟨fun _ => .inl ⟨h1, h2⟩, fun _ => rfl⟩, q _ s1⟩
      · refine ⟨_, _, rfl, rfl, false, congrArg V.bl (lt22 (k := 22) (decide_eq_false h2)), ?_⟩
        refine ⟨_, rfl, rfl, .inr ⟨decide (a = 30), congrArg (fun z => [V.bl z]) (eqk (k := 30) rfl), l, _, _, _, rfl, rfl, sqL e1, at0 _ ⟨fun z => .inr (of_decide_eq_true z), fun z => decide_eq_true (z.resolve_left (fun w => h2 w.2))⟩, q _ s1⟩⟩
    · refine ⟨_, rfl, _, _, rfl, rfl, false, congrArg V.bl (ge13 (decide_eq_false h1)), false, rfl, ?_⟩
      refine ⟨_, rfl, rfl, .inr ⟨decide (a = 30), congrArg (fun z => [V.bl z]) (eqk (k := 30) rfl), l, _, _, _, rfl, rfl, sqL e1, at0 _ ⟨fun z => .inr (of_decide_eq_true z), fun z => decide_eq_true (z.resolve_left (fun w => h1 w.1))⟩, q _ s1⟩⟩
def sp_law_beats : Sp := fun vs H Q _ => ∃ (a : Nat) (b : Int), vs = [.int (a : Int)] ∧ beatsL[a]? = some b ∧ ∀ H', Same H H' → Q (.int b) H'
theorem sc__law_beats : FnScope ["_law_at"] ["_law_at"] (defScope (topS 70)) := ⟨rfl, rfl, rfl, by decide +kernel, rfl, by decide +kernel, by decide +kernel⟩
theorem ok__law_beats (T : Txt K mg) : Ok P w K mg base 1 "_law_beats" ["_law_at"] (sp_law_beats) := by
  obtain ⟨fd, F⟩ := T.d__law_beats
  refine ⟨fd, F.ok sc__law_beats (fun vs H Q E h => ?_) (fun cdv A outer s H vs Q E hr h => ?_), F.kp, F.bindsN fun _ _ _ _ _ _ us hl => match us, hl with | [_], _ => rfl⟩
  · obtain ⟨a, b, rfl, _⟩ := h
    rfl
  · obtain ⟨a, b, rfl, hb, q⟩ := h
    have hu := hu_of hr
    refine ⟨_, PSs.nox (pss_one (ps_ret (pe_ix ix_list (pe_lst (pa_cons pe_int (pa_cons pe_int (pa_cons pe_int (pa_cons pe_int (pa_cons pe_int (pa_cons pe_int (pa_cons pe_int (pa_cons pe_int (pa_cons pe_int (pa_cons pe_int (pa_cons pe_int (pa_cons pe_int (pa_cons pe_int (pa_cons pe_int (pa_cons pe_int (pa_cons pe_int (pa_cons pe_int (pa_cons pe_int (pa_cons pe_int (pa_cons pe_int (pa_cons pe_int (pa_cons pe_int (pa_cons pe_int (pa_cons pe_int (pa_cons pe_int (pa_cons pe_int (pa_cons pe_int (pa_cons pe_int (pa_cons pe_int (pa_cons pe_int (pa_cons pe_int pa_nil)))))))))))))))))))))))))))))))) (pv 0) (fun _ _ => rfl)))), ?_⟩
    refine ⟨by show 31 ≤ sizeLine; decide, fun l nl => ?_⟩
    refine ⟨_, rfl, l, _, _, _, rfl, rfl, sqL upd_same, atI_nat (show (beatsL.map V.int)[a]? = some (.int b) by rw [List.getElem?_map, hb]; rfl), ?_⟩
    exact q _ (same_new nl)
def sp_law_most : Sp := fun vs H Q _ => ∃ a : Nat, vs = [.int (a : Int)] ∧ (a < 13 ∨ a = 28 ∨ a = 29 ∨ a = 30) ∧ ∀ H' (m : Int), Same H H' → 0 ≤ m → Q (.int m) H'
theorem sc__law_most : FnScope ["_law_at"] ["_law_at"] (defScope (topS 68)) := ⟨rfl, rfl, rfl, by decide +kernel, rfl, by decide +kernel, by decide +kernel⟩
theorem ok__law_most (T : Txt K mg) : Ok P w K mg base 1 "_law_most" ["_law_at"] (sp_law_most) := by
  obtain ⟨fd, F⟩ := T.d__law_most
  refine ⟨fd, F.ok sc__law_most (fun vs H Q E h => ?_) (fun cdv A outer s H vs Q E hr h => ?_), F.kp, F.bindsN fun _ _ _ _ _ _ us hl => match us, hl with | [_], _ => rfl⟩
  · obtain ⟨a, rfl, _⟩ := h
    rfl
  · obtain ⟨a, rfl, ha, q⟩ := h
    have hu := hu_of hr
    refine ⟨_, PSs.nox (pss_cons (ps_if (PW.pt (pw_or (pt_cmpR op_lt (pv 0) pe_int (nomark _)) (pw_or1 (pt_cmpR op_eq (pv 0) pe_int (nomark _)))))
      (pss_one (ps_ret pe_int))
      pss_nil)
      (pss_cons (ps_if (pt_cmpR op_lt (pv 0) pe_int (nomark _))
      (pss_one (ps_ret pe_int))
      pss_nil)
      (pss_one (ps_ret (pe_ix ix_list (pe_lst (pa_cons pe_int (pa_cons pe_int pa_nil))) (pe_op op_sub (pv 0) pe_int) (fun _ _ => rfl)))))), ?_⟩
    by_cases h1 : a < 3
    · exact ⟨_, rfl, _, _, rfl, rfl, true, congrArg V.bl (lt22 (k := 3) (decide_eq_true h1)), q _ _ (Same.refl _) (by decide)⟩
    refine ⟨_, rfl, _, _, rfl, rfl, false, congrArg V.bl (lt22 (k := 3) (decide_eq_false h1)), ?_⟩
    by_cases h2 : a = 30
    · exact ⟨_, rfl, rfl, true, congrArg V.bl (eqk (k := 30) (decide_eq_true h2)), q _ _ (Same.refl _) (by decide)⟩
    refine ⟨_, rfl, rfl, false, congrArg V.bl (eqk (k := 30) (decide_eq_false h2)), ?_⟩
    by_cases h3 : a < 13
    · exact ⟨_, rfl, _, _, rfl, rfl, true, congrArg V.bl (lt22 (k := 13) (decide_eq_true h3)), q _ _ (Same.refl _) (by decide)⟩
    refine ⟨_, rfl, _, _, rfl, rfl, false, congrArg V.bl (lt22 (k := 13) (decide_eq_false h3)), ?_⟩
    refine ⟨by show 2 ≤ sizeLine; decide, fun l nl => ?_⟩
    rcases ha with z | z | z | z
    · exact absurd z h3
    · subst z
      exact ⟨_, rfl, _, _, rfl, rfl, l, _, _, _, rfl, rfl, sqL upd_same, rfl, q _ _ (same_new nl) (by decide)⟩
    · subst z
      exact ⟨_, rfl, _, _, rfl, rfl, l, _, _, _, rfl, rfl, sqL upd_same, rfl, q _ _ (same_new nl) (by decide)⟩
    · exact absurd z h2
def alph : Str := "abcdefghijklmnopqrstuvwxyz"
theorem alph_len : alph.cps.toList.length = 26 := by decide +kernel
def nmOf (k : Nat) : Str := ⟨(List.replicate (1 + (k : Int) / 26 % 8).toNat #[alph.cps.toList[k % 26]'(by rw [alph_len]; exact Nat.mod_lt _ (by decide))]).foldl (· ++ ·) #[]⟩
def sp_law_name : Sp := fun vs H Q _ => ∃ k : Nat, vs = [.int (k : Int)] ∧ Q (.str (nmOf k)) H
theorem sc__law_name : FnScope ["_law_k"] ["_law_k"] (defScope (topS 71)) := ⟨rfl, rfl, rfl, by decide +kernel, rfl, by decide +kernel, by decide +kernel⟩
theorem ok__law_name (T : Txt K mg) : Ok P w K mg base 1 "_law_name" ["_law_k"] (sp_law_name) := by
  obtain ⟨fd, F⟩ := T.d__law_name
  refine ⟨fd, F.ok sc__law_name (fun vs H Q E h => ?_) (fun cdv A outer s H vs Q E hr h => ?_), F.kp, F.bindsN fun _ _ _ _ _ _ us hl => match us, hl with | [_], _ => rfl⟩
  · obtain ⟨k, rfl, _⟩ := h
    rfl
  · obtain ⟨k, rfl, q⟩ := h
    have hu := hu_of hr
    refine ⟨_, PSs.nox (pss_one (ps_ret (pe_op R65.op_repS (pe_ix ix_str pe_str (pe_op op_mod (pv 0) pe_int) (fun _ _ => rfl)) (pe_op op_add pe_int (pe_op op_mod (pe_op op_fdiv (pv 0) pe_int) pe_int))))), ?_⟩
    have ea : atI alph.cps.toList ((k : Int) % 26) = some (alph.cps.toList[k % 26]'(by rw [alph_len]; exact Nat.mod_lt _ (by decide))) := atI_nat (j := k % 26) (List.getElem?_eq_getElem _)
    refine ⟨_, rfl, _, _, rfl, rfl, (by show (0 : Int) < 26; decide), alph, _, _, rfl, rfl, by decide +kernel, ea, ?_⟩
    refine ⟨_, rfl, _, _, rfl, rfl, ⟨by decide, by decide⟩, _, _, rfl, rfl, (by show (0 : Int) < 8; decide), _, _, rfl, rfl, ?_⟩
    exact ⟨_, _, rfl, rfl, by omega, by omega, rfl, q⟩
/-- what a drawn value is -/
def ValOk (a : Nat) (ms ts : List Str) (v : V) : Prop := (22 ≤ a → a < 27 → ∃ m ∈ ms, v = .str m) ∧ (a = 27 → ∃ m ∈ ts, v = .str m) ∧ (a = 28 → ∃ x : Int, v = .int x)
theorem SB.lst {d a : Addr} {H H' : Hp} {xs : List V} (s : SB d H H') (n : a ≠ d) (h : H a = some (.lst xs)) : H' a = some (.lst xs) := s _ _ n h
theorem mod_lt_len {x : Int} {n : Nat} (h : 0 < n) : ∃ j : Nat, x % (n : Int) = (j : Int) ∧ j < n := by
  have h1 := Int.emod_nonneg x (show (n : Int) ≠ 0 by omega)
  have h2 := Int.emod_lt_of_pos x (show (0 : Int) < (n : Int) by omega)
  exact ⟨(x % (n : Int)).toNat, by omega, by omega⟩
def sp_law_value (K : PySem.W.Frag) : Sp := fun vs H Q _ => ∃ (d : Addr) (a : Nat) (ml tl : Addr) (ms ts : List Str), vs = [.ref d, .int (a : Int), .ref ml, .ref tl] ∧ DeckAt H d ∧ a < 31 ∧ H ml = some (.lst (ms.map V.str)) ∧ H tl = some (.lst (ts.map V.str)) ∧ ml ≠ d ∧ tl ≠ d ∧ (22 ≤ a → a < 27 → 0 < ms.length) ∧ (a = 27 → 0 < ts.length) ∧ ∀ H' v, SB d H H' → DeckAt H' d → ValOk a ms ts v → Q v H'
theorem sc__law_value : FnScope ["_law_deck_here", "_law_at", "_law_marks", "_law_tables", "_law_cell"] ["_law_deck_here", "_law_at", "_law_marks", "_law_tables"] (defScope (topS 72)) := ⟨rfl, rfl, rfl, by decide +kernel, rfl, by decide +kernel, by decide +kernel⟩
theorem ok__law_value (T : Txt K mg) : Ok P w K mg base 2 "_law_value" ["_law_deck_here", "_law_at", "_law_marks", "_law_tables"] (sp_law_value K) := by
  obtain ⟨fd, F⟩ := T.d__law_value
  obtain ⟨fd_lnext, G_lnext, kp_lnext, b_lnext⟩ := ok__law_next (P := P) (w := w) (base := base) T
  obtain ⟨fd_lmost, G_lmost, kp_lmost, b_lmost⟩ := ok__law_most (P := P) (w := w) (base := base) T
  refine ⟨fd, F.ok sc__law_value (fun vs H Q E h => ?_) (fun cdv A outer s H vs Q E hr h => ?_), F.kp, F.bindsN fun _ _ _ _ _ _ us hl => match us, hl with | [_, _, _, _], _ => rfl⟩
  · obtain ⟨d, a, ml, tl, ms, ts, rfl, _⟩ := h
    rfl
  · obtain ⟨d, a, ml, tl, ms, ts, rfl, hd, ha, hm, ht, nm, nt, h1, h2, q⟩ := h
    have hu := hu_of hr
    refine ⟨_, PSs.nox (pss_cons (ps_set (i := 4) sc__law_value.nd rfl (by first | exact Or.inl rfl | exact Or.inr rfl) (pe_call G_lnext hr (by rfl) T.g__law_next kp_lnext b_lnext .nil pass0 (pa_cons (pv 0) pa_nil)))
      (pss_cons (ps_if (pt_chain op_le op_lt pe_int (pv 1) pe_int)
      (pss_one (ps_ret pe_non))
      pss_nil)
      (pss_cons (ps_if (pt_cmpR op_eq (pv 1) pe_int (nomark _))
      (pss_one (ps_ret (pe_ix ix_list (pv 3) (pe_op op_mod (pv 4) (pe_callB call_len_seq (by rfl) T.z_len (by decide +kernel) (pa_cons (pv 3) pa_nil))) (fun _ _ => rfl))))
      pss_nil)
      (pss_cons (ps_if (pt_chain op_le op_lt pe_int (pv 1) pe_int)
      (pss_one (ps_ret (pe_ix ix_list (pv 2) (pe_op op_mod (pv 4) (pe_callB call_len_seq (by rfl) T.z_len (by decide +kernel) (pa_cons (pv 2) pa_nil))) (fun _ _ => rfl))))
      pss_nil)
      (pss_one (ps_ret (pe_op op_mod (pv 4) (pe_op op_add (pe_call G_lmost hr (by rfl) T.g__law_most kp_lmost b_lmost .nil pass0 (pa_cons (pv 1) pa_nil)) pe_int)))))))), ?_⟩
    refine ⟨_, rfl, d, rfl, hd, fun H1 x s1 hd1 => ?_⟩
    have hm1 := s1.lst nm hm
    have ht1 := s1.lst nt ht
    have skip : ¬ (13 ≤ a ∧ a < 22) → (a ≠ 27) → ¬ (22 ≤ a ∧ a < 27) → a < 13 ∨ a = 28 ∨ a = 29 ∨ a = 30 := by omega
    by_cases c1 : 13 ≤ a ∧ a < 22
    · refine ⟨_, rfl, _, _, rfl, rfl, true, congrArg V.bl (ge13 (decide_eq_true c1.1)), _, _, rfl, rfl, true, congrArg V.bl (lt22 (k := 22) (decide_eq_true c1.2)), ?_⟩
      exact q _ _ s1 hd1 ⟨fun z => by omega, fun z => by omega, fun z => by omega⟩
    refine (fun rest => by
      by_cases z : 13 ≤ a
      · exact ⟨_, rfl, _, _, rfl, rfl, true, congrArg V.bl (ge13 (decide_eq_true z)), _, _, rfl, rfl, false, congrArg V.bl (lt22 (k := 22) (decide_eq_false (fun w => c1 ⟨z, w⟩))), rest⟩
      · exact ⟨_, rfl, _, _, rfl, rfl, false, congrArg V.bl (ge13 (decide_eq_false z)), false, rfl, rest⟩) ?_
    by_cases c2 : a = 27
    · obtain ⟨j, j1, j2⟩ := mod_lt_len (x := x) (h2 c2)
      refine ⟨_, rfl, rfl, true, congrArg V.bl (eqk (k := 27) (decide_eq_true c2)), ?_⟩
      refine ⟨_, rfl, _, rfl, _, rfl, tl, _, rfl, .inl (sqL ht1), _, _, rfl, rfl, (by show (0 : Int) < ((ts.map V.str).length : Int); rw [List.length_map]; omega), tl, _, _, _, rfl, rfl, sqL ht1, (by rw [List.length_map, j1]; exact atI_nat (show (ts.map V.str)[j]? = some (.str ts[j]) by rw [List.getElem?_map, List.getElem?_eq_getElem j2]; rfl)), ?_⟩
      exact q _ _ s1 hd1 ⟨fun z => by omega, fun _ => ⟨_, List.getElem_mem _, rfl⟩, fun z => by omega⟩
    refine ⟨_, rfl, rfl, false, congrArg V.bl (eqk (k := 27) (decide_eq_false c2)), ?_⟩
    by_cases c3 : 22 ≤ a ∧ a < 27
    · obtain ⟨j, j1, j2⟩ := mod_lt_len (x := x) (h1 c3.1 c3.2)
      refine ⟨_, rfl, _, _, rfl, rfl, true, congrArg V.bl (decide_eq_true (by omega)), _, _, rfl, rfl, true, congrArg V.bl (lt22 (k := 27) (decide_eq_true c3.2)), ?_⟩
      refine ⟨_, rfl, _, rfl, _, rfl, ml, _, rfl, .inl (sqL hm1), _, _, rfl, rfl, (by show (0 : Int) < ((ms.map V.str).length : Int); rw [List.length_map]; omega), ml, _, _, _, rfl, rfl, sqL hm1, (by rw [List.length_map, j1]; exact atI_nat (show (ms.map V.str)[j]? = some (.str ms[j]) by rw [List.getElem?_map, List.getElem?_eq_getElem j2]; rfl)), ?_⟩
      exact q _ _ s1 hd1 ⟨fun _ _ => ⟨_, List.getElem_mem _, rfl⟩, fun z => absurd z c2, fun z => by omega⟩
    refine (fun rest => by
      by_cases z : 22 ≤ a
      · exact ⟨_, rfl, _, _, rfl, rfl, true, congrArg V.bl (decide_eq_true (by omega)), _, _, rfl, rfl, false, congrArg V.bl (lt22 (k := 27) (decide_eq_false (fun w => c3 ⟨z, w⟩))), rest⟩
      · exact ⟨_, rfl, _, _, rfl, rfl, false, congrArg V.bl (decide_eq_false (by omega)), false, rfl, rest⟩) ?_
    refine ⟨_, rfl, _, rfl, a, rfl, skip c1 c2 c3, fun H2 m s2 hm0 => ?_⟩
    refine ⟨_, _, rfl, rfl, _, _, rfl, rfl, (by show (0 : Int) < m + 1; omega), ?_⟩
    exact q _ _ (s1.trans (SB.of s2)) (hd1.same s2) ⟨fun z1 z2 => absurd ⟨z1, z2⟩ c3, fun z => absurd z c2, fun _ => ⟨_, rfl⟩⟩
end
end B65

end

section
set_option Elab.async false
set_option linter.all false
set_option maxRecDepth 100000
set_option maxHeartbeats 1000000
namespace B65
open PySem PySem.Spec PyProof.Rows L2
section
variable {P : Program} {w : World} {K : PySem.W.Frag} {mg : Str → Option Value} {base : Heap}
def sp_law_deck (K : PySem.W.Frag) : Sp := fun vs H Q _ => ∃ (a : Addr) (ns : List Int) (m : Nat), vs = [.ref a, .int (m : Int)] ∧ SqL K H a (ns.map V.int) ∧ m ≤ 5000 ∧ ∀ H' d, Same H H' → H d = none → DeckAt H' d → Q (.ref d) H'
theorem sc__law_deck : FnScope ["_law_script", "_law_many", "_law_own", "_law_rest", "_law_deck_here", "_law_k", "_law_at", "_law_cell"] ["_law_script", "_law_many"] (defScope (topS 65)) := ⟨rfl, rfl, rfl, by decide +kernel, rfl, by decide +kernel, by decide +kernel⟩
theorem ok__law_deck (T : Txt K mg) : Ok P w K mg base 2 "_law_deck" ["_law_script", "_law_many"] (sp_law_deck K) := by
  obtain ⟨fd, F⟩ := T.d__law_deck
  obtain ⟨fd_lmixed, G_lmixed, kp_lmixed, b_lmixed⟩ := ok__law_mixed (P := P) (w := w) (base := base) T
  refine ⟨fd, F.ok sc__law_deck (fun vs H Q E h => ?_) (fun cdv A outer s H vs Q E hr h => ?_), F.kp, F.bindsN fun _ _ _ _ _ _ us hl => match us, hl with | [_, _], _ => rfl⟩
  · obtain ⟨a, ns, m, rfl, _⟩ := h
    rfl
  · obtain ⟨a, ns, m, rfl, ha, hm, q⟩ := h
    have hu := hu_of hr
    refine ⟨_, PSs.nox (pss_cons (ps_set (i := 2) sc__law_deck.nd rfl (by first | exact Or.inl rfl | exact Or.inr rfl) (pe_op op_cat (pe_callTy call_list_of (by rfl) T.z_list (by decide +kernel) (pa_cons (pe_slice sl_list (pv 0) po_none (po_some pe_int)) pa_nil)) (pe_op op_rep (pe_lst (pa_cons pe_int pa_nil)) (pe_callTy call_int1 (by rfl) T.z_int (by decide +kernel) (pa_cons (pe_cmpR op_eq (pe_callB call_len_seq (by rfl) T.z_len (by decide +kernel) (pa_cons (pv 0) pa_nil)) pe_int (nomark _)) pa_nil)))))
      (pss_cons (ps_setLc (i := 3) (own := [("_law_cell", 7)]) rfl sc__law_deck.nd rfl rfl (sw_true rfl rfl rfl (by decide +kernel)) (pi_list (pv 2)) (blkOk_by (N := ["_law_script", "_law_many", "_law_own", "_law_rest", "_law_deck_here", "_law_k", "_law_at", "_law_cell"]) (sc := defScope (topS 65)) (by decide +kernel)) (fun _ _ _ _ _ => (pg_name (i := 7) sc__law_deck.nd rfl (by first | exact Or.inl rfl | exact Or.inr rfl))) (fun _ _ _ _ _ => pts_nil) (fun _ _ _ _ _ => (pe_op op_mul (pv 7) (pe_callTy call_int1 (by rfl) T.z_int (by decide +kernel) (pa_cons (pe_cmpR op_ge (pv 7) (pe_op op_pow pe_int pe_int) (nomark _)) pa_nil)))))
      (pss_cons (ps_set (i := 4) sc__law_deck.nd rfl (by first | exact Or.inl rfl | exact Or.inr rfl) (pe_lst pa_nil))
      (pss_cons (ps_for PassesOwn.never rfl (pi_range1 (by rfl) T.z_range (pa_cons (pv 1) pa_nil)) (pg_name (i := 5) sc__law_deck.nd rfl (by first | exact Or.inl rfl | exact Or.inr rfl))
      (pss_cons (ps_set (i := 6) sc__law_deck.nd rfl (by first | exact Or.inl rfl | exact Or.inr rfl) (pe_op op_mod (pv 5) (pe_callB call_len_seq (by rfl) T.z_len (by decide +kernel) (pa_cons (pv 2) pa_nil))))
      (pss_one (ps_if (pt_cmpR op_gt (pe_ix ix_list (pv 3) (pv 6) (fun _ _ => rfl)) pe_int (nomark _))
      (pss_cons (ps_expr (pe_bm PySem.F.plainAttrs_list PySem.F.slot_list_append PySem.F.type_list_append mt_append (pv 4) (pa_cons (pe_op op_mod (pe_ix ix_list (pv 3) (pv 6) (fun _ _ => rfl)) pe_int) pa_nil)))
      (pss_one (ps_asg (pe_op op_fdiv (pe_ix ix_list (pv 3) (pv 6) (fun _ _ => rfl)) pe_int) (pg_sub (pv 3) (pv 6) set_list))))
      (pss_one (ps_expr (pe_bm PySem.F.plainAttrs_list PySem.F.slot_list_append PySem.F.type_list_append mt_append (pv 4) (pa_cons (pe_op op_mod (pe_call G_lmixed hr (by rfl) T.g__law_mixed kp_lmixed b_lmixed .nil pass0 (pa_cons (pe_ix ix_list (pv 2) (pv 6) (fun _ _ => rfl)) (pa_cons (pe_op op_add (pv 5) pe_int) pa_nil))) pe_int) pa_nil))))))))
      (pss_one (ps_ret (R65.pe_lstRev rfl (by rfl) T.z_list (by rfl) T.z_reversed (pv 4)))))))), ?_⟩
    have hsl : ∀ {H'}, Same H H' → SqL K H' a (ns.map V.int) := fun {H'} s => by
      rcases ha with (h | ⟨o, h⟩) | h
      · exact .inl (.inl (s _ _ h))
      · exact .inl (.inr ⟨o, s _ _ h⟩)
      · exact .inr h
    refine ⟨_, rfl, _, rfl, a, _, rfl, ha, fun p np => ?_⟩
    have s1 := same_new (o := .lst (cutV (ns.map V.int) none (some 60))) np
    have e1 : upd H p (.lst (cutV (ns.map V.int) none (some 60))) p = some (.lst ((ns.take 60).map V.int)) := by rw [upd_same, show (some (60 : Int)) = some ((60 : Nat) : Int) from rfl, cut_to, List.map_take]
    generalize upd H p (.lst (cutV (ns.map V.int) none (some 60))) = H1 at *
    refine ⟨p, _, rfl, .inl (sqL e1), fun p2 np2 => ?_⟩
    have s2 := s1.trans (same_new (o := .lst ((ns.take 60).map V.int)) np2)
    have e2 : upd H1 p2 (.lst ((ns.take 60).map V.int)) p2 = some (.lst ((ns.take 60).map V.int)) := upd_same
    generalize upd H1 p2 (.lst ((ns.take 60).map V.int)) = H2 at *
    refine ⟨by show 1 ≤ sizeLine; decide, fun p3 np3 => ?_⟩
    have s3 := s2.trans (same_new (o := .lst [V.int 0]) np3)
    have e3 : upd H2 p3 (.lst [V.int 0]) p3 = some (.lst [V.int 0]) := upd_same
    have e2' := same_new (o := .lst [V.int 0]) np3 _ _ e2
    generalize upd H2 p3 (.lst [V.int 0]) = H3 at *
    obtain ⟨kk, hkk⟩ : ∃ kk : Int, kk = (if decide (V.int (((ns.map V.int).length : Nat) : Int) = V.int 0) = true then 1 else 0) := ⟨_, rfl⟩
    have hk01 : kk = 0 ∨ kk = 1 := by rw [hkk]; split <;> simp
    refine ⟨_, rfl, a, _, rfl, .inl (hsl s3), rfl, .inr ⟨_, rfl, ?_⟩⟩
    rw [← hkk]
    refine ⟨p3, kk, _, rfl, rfl, e3, by omega, by omega, sz (by show 1 * kk.toNat ≤ 100000; omega), fun p4 np4 => ?_⟩
    have s4 := s3.trans (same_new (o := .lst (List.replicate kk.toNat [V.int 0]).flatten) np4)
    have e4 : upd H3 p4 (.lst (List.replicate kk.toNat [V.int 0]).flatten) p4 = some (.lst (List.replicate kk.toNat [V.int 0]).flatten) := upd_same
    have e2'' := same_new (o := .lst (List.replicate kk.toNat [V.int 0]).flatten) np4 _ _ e2'
    generalize upd H3 p4 (.lst (List.replicate kk.toNat [V.int 0]).flatten) = H4 at *
    have hown : ∃ ow : List Int, (ns.take 60).map V.int ++ (List.replicate kk.toNat [V.int 0]).flatten = ow.map V.int ∧ 0 < ow.length ∧ ow.length ≤ 61 := by
      rcases hk01 with z | z
      · rw [z]
        refine ⟨ns.take 60, by simp, ?_, by rw [List.length_take]; omega⟩
        rw [z] at hkk
        cases ns with
        | nil => simp at hkk
        | cons x r => simp
      · rw [z]
        exact ⟨ns.take 60 ++ [0], by simp, by simp, by rw [List.length_append, List.length_take]; show _ + 1 ≤ 61; omega⟩
    obtain ⟨ow, ow1, ow2, ow3⟩ := hown
    refine ⟨p2, p4, _, _, rfl, rfl, e2'', e4, sz (by rw [← List.length_append, ow1, List.length_map]; omega), fun po npo => ?_⟩
    have s5 := s4.trans (same_new (o := .lst ((ns.take 60).map V.int ++ (List.replicate kk.toNat [V.int 0]).flatten)) npo)
    have e5 : upd H4 po (.lst ((ns.take 60).map V.int ++ (List.replicate kk.toNat [V.int 0]).flatten)) po = some (.lst (ow.map V.int)) := by rw [upd_same, ow1]
    generalize upd H4 po (.lst ((ns.take 60).map V.int ++ (List.replicate kk.toNat [V.int 0]).flatten)) = H5 at *
    refine ⟨_, rfl, po, rfl, ⟨_, sqL e5⟩, fun D nD => ?_⟩
    refine lc_st (walk_list (K := K) (a := po) (xs := ow.map V.int)) (fun j acc H' => Same H5 H' ∧ ∃ zs : List Int, acc = zs.map V.int ∧ zs.length = j) ⟨same_new nD, [], rfl, rfl⟩ (fun j acc _ _ H' _ ⟨s, e⟩ => ⟨same_mut s nD, e⟩) (fun j acc H' _ ⟨s, e⟩ => sqL (s _ _ e5)) (fun j acc H' hj ⟨s, zs, e, l⟩ => by rw [e, List.length_map, l]; rw [List.length_map] at hj; exact szl (by omega)) (fun j xv acc H6 H7 hj eD ⟨s, zs, e, l⟩ ⟨eH, exv⟩ Qy Qn ky kn => ?_) (fun acc H6 eD ⟨s, zs, e, l⟩ => ?_)
    · subst eH
      rw [List.getElem?_map] at exv
      obtain ⟨x, ex, rfl⟩ : ∃ x, ow[j]? = some x ∧ xv = V.int x := by
        cases q9 : ow[j]? with
        | none => rw [q9] at exv; cases exv
        | some x => rw [q9] at exv; exact ⟨x, rfl, (Option.some.inj exv).symm⟩
      refine ⟨rfl, _, rfl, _, rfl, _, _, rfl, rfl, ⟨by decide, by decide, by decide⟩, _, _, rfl, rfl, .inr ⟨_, rfl, ?_⟩⟩
      refine ⟨_, _, rfl, rfl, .inr ⟨by split <;> decide, by split <;> decide⟩, ky _ _ eD ⟨s, zs ++ [_], by rw [e, List.map_append]; rfl, by rw [List.length_append, l]; rfl⟩⟩
    subst e
    rw [List.length_map] at l
    have s6 := s5.trans s
    have e6 := s _ _ e5
    have nD0 := none_of s5 nD
    have hoD : po ≠ D := ne_of_none e5 nD
    clear s e5
    refine ⟨Nat.zero_le _, fun dk ndk => ?_⟩
    have ndk0 := none_of s6 ndk
    have hDk : D ≠ dk := ne_of_none eD ndk
    have hok : po ≠ dk := ne_of_none e6 ndk
    have s7 := s6.trans (same_new (o := .lst []) ndk)
    have e7 := upd_at (o := .lst []) e6 hok
    have eD7 := upd_at (o := .lst []) eD hDk
    have ek7 : upd H6 dk (.lst []) dk = some (.lst []) := upd_same
    generalize upd H6 dk (.lst []) = H7 at *
    have int_at : ∀ {zs : List Int} {j : Nat}, j < zs.length → ∃ z, zs[j]? = some z ∧ atI (zs.map V.int) (j : Int) = some (.int z) := fun {zs j} h => ⟨zs[j], List.getElem?_eq_getElem h, atI_nat (by rw [List.getElem?_map, List.getElem?_eq_getElem h]; rfl)⟩
    refine ⟨_, rfl, _, rfl, by omega, by omega, for_it walk_rng (fun i σ H' => ∃ (ds rs : List Int) (x5 x6 : Option V), σ = [some (.ref a), some (.int (m : Int)), some (.ref po), some (.ref D), some (.ref dk), x5, x6, none] ∧ Same H H' ∧ H' po = some (.lst (ow.map V.int)) ∧ H' D = some (.lst (rs.map V.int)) ∧ rs.length = ow.length ∧ H' dk = some (.lst (ds.map V.int)) ∧ ds.length = i)
      ⟨[], zs, none, none, rfl, s7, e7, eD7, l, ek7, rfl⟩ (fun _ _ _ _ _ => trivial) ?_ ?_⟩
    · rintro i xv σ H8 H' hi ⟨ds, rs, x5, x6, rfl, s8, e8, eD8, l8, ek8, l9⟩ ⟨rfl, rfl⟩
      obtain ⟨j, j1, j2⟩ := mod_lt_len (x := (i : Int)) ow2
      obtain ⟨rz, r1, r2⟩ := int_at (zs := rs) (j := j) (by omega)
      obtain ⟨oz, o1, o2⟩ := int_at (zs := ow) (j := j) j2
      refine ⟨_, rfl, _, rfl, po, _, rfl, .inl (sqL e8), _, _, rfl, rfl, (by show (0 : Int) < ((ow.map V.int).length : Int); rw [List.length_map]; omega), ?_⟩
      have jj : (i : Int) % ((ow.map V.int).length : Int) = (j : Int) := by rw [List.length_map]; exact j1
      rw [← jj] at r2 o2
      refine ⟨_, rfl, _, rfl, D, _, _, _, rfl, rfl, sqL eD8, r2, _, _, rfl, rfl, _, rfl, ite2 (fun _ => ?_) (fun _ => ?_)⟩
      · refine ⟨_, rfl, .inl ⟨rfl, _, sqL ek8⟩, _, rfl, _, rfl, D, _, _, _, rfl, rfl, sqL eD8, r2, _, _, rfl, rfl, (by show (0 : Int) < 1000; decide), dk, _, _, rfl, rfl, ek8, by rw [List.length_map]; exact szl (by omega), ?_⟩
        have s9 := same_mut (o := .lst (ds.map V.int ++ [V.int (rz % 1000)])) s8 ndk0
        have e9 := upd_at (o := .lst (ds.map V.int ++ [V.int (rz % 1000)])) e8 hok
        have eD9 := upd_at (o := .lst (ds.map V.int ++ [V.int (rz % 1000)])) eD8 hDk
        have ek9 : upd H' dk (.lst (ds.map V.int ++ [V.int (rz % 1000)])) dk = some (.lst ((ds ++ [rz % 1000]).map V.int)) := by rw [upd_same, List.map_append]; rfl
        generalize upd H' dk (.lst (ds.map V.int ++ [V.int (rz % 1000)])) = H9 at *
        refine ⟨_, rfl, _, rfl, D, _, _, _, rfl, rfl, sqL eD9, r2, _, _, rfl, rfl, ⟨by decide, by decide⟩, _, rfl, _, rfl, D, _, _, j, rfl, rfl, eD9, (by show L2.ixN _ ((i : Int) % ((ow.map V.int).length : Int)) = _; rw [jj]; exact Evl.ixN_nat (by rw [List.length_map]; omega)), ?_⟩
        refine ⟨ds ++ [rz % 1000], rs.set j (rz / 1000), _, _, rfl, same_mut s9 nD0, upd_at e9 hoD, by rw [upd_same, List.map_set], by rw [List.length_set, l8], upd_at ek9 hDk.symm, by rw [List.length_append, l9]; rfl⟩
      · refine ⟨_, rfl, .inl ⟨rfl, _, sqL ek8⟩, _, rfl, _, rfl, po, _, _, _, rfl, rfl, sqL e8, o2, _, rfl, _, _, rfl, rfl, oz, _, rfl, by omega, by omega, fun x => ?_⟩
        refine ⟨_, _, rfl, rfl, (by show (0 : Int) < 1000; decide), dk, _, _, rfl, rfl, ek8, by rw [List.length_map]; exact szl (by omega), ?_⟩
        refine ⟨ds ++ [x % 1000], rs, _, _, rfl, same_mut s8 ndk0, upd_at e8 hok, upd_at eD8 hDk, l8, by rw [upd_same, List.map_append]; rfl, by rw [List.length_append, l9]; rfl⟩
    · rintro σ H' ⟨ds, rs, x5, x6, rfl, s8, e8, eD8, l8, ek8, l9⟩
      refine ⟨_, rfl, dk, _, rfl, sqL ek8, fun qq nq => q _ qq (s8.trans (same_new nq)) (none_of s8 nq) ⟨ds.reverse, by rw [upd_same, List.map_reverse]⟩⟩
end
end B65

end

section
set_option Elab.async false
set_option linter.all false
set_option maxRecDepth 100000
set_option maxHeartbeats 1000000
namespace B65
open PySem PySem.Spec PyProof.Rows L2
section
variable {P : Program} {w : World} {K : PySem.W.Frag} {mg : Str → Option Value} {base : Heap}
/-! ### drawn programs -/
/-- a list of rows stands at l -/
def RLAt (H : Hp) (l : Addr) (rs : List Row) : Prop := ∃ as : List Addr, H l = some (.lst (as.map V.ref)) ∧ as.length = rs.length ∧ ∀ (i : Nat) (r : Row), rs[i]? = some r → ∃ a, as[i]? = some a ∧ H a = some (.tup r.vs)
theorem RLAt.same {H H' : Hp} {l : Addr} {rs : List Row} (s : Same H H') (h : RLAt H l rs) : RLAt H' l rs := by
  obtain ⟨as, h1, h2, h3⟩ := h
  exact ⟨as, s _ _ h1, h2, fun i r e => let ⟨a, e1, e2⟩ := h3 i r e; ⟨a, e1, s _ _ e2⟩⟩
theorem SB.tup {d t : Addr} {H H' : Hp} {xs : List V} (s : SB d H H') (hd : DeckAt H d) (h : H t = some (.tup xs)) : H' t = some (.tup xs) := by
  obtain ⟨ns, e⟩ := hd
  exact s _ _ (ne_of h e (fun z => by cases z)) h
theorem DeckAt.ne {d l : Addr} {H : Hp} (h : DeckAt H d) (n : H l = none) : l ≠ d := by
  obtain ⟨ns, e⟩ := h
  exact fun z => by rw [z, e] at n; cases n
theorem RLAt.sb {d l : Addr} {H H' : Hp} {rs : List Row} (s : SB d H H') (hd : DeckAt H d) (n : l ≠ d) (h : RLAt H l rs) : RLAt H' l rs := by
  obtain ⟨as, h1, h2, h3⟩ := h
  exact ⟨as, s _ _ n h1, h2, fun i r e => let ⟨a, e1, e2⟩ := h3 i r e; ⟨a, e1, s.tup hd e2⟩⟩
theorem RLAt.nil {H : Hp} {l : Addr} (h : H l = some (.lst [])) : RLAt H l [] := ⟨[], h, rfl, fun i r e => by simp at e⟩
theorem RLAt.snoc {H : Hp} {l t : Addr} {rs : List Row} {r : Row} (h : RLAt H l rs) (ht : H t = some (.tup r.vs)) : ∃ xs, H l = some (.lst xs) ∧ xs.length = rs.length ∧ RLAt (upd H l (.lst (xs ++ [.ref t]))) l (rs ++ [r]) := by
  obtain ⟨as, h1, h2, h3⟩ := h
  refine ⟨_, h1, by rw [List.length_map, h2], as ++ [t], by rw [upd_same, List.map_append]; rfl, by rw [List.length_append, List.length_append, h2]; rfl, fun i r9 e => ?_⟩
  rcases snoc_get e with e1 | ⟨e1, e2⟩
  · obtain ⟨a, a1, a2⟩ := h3 i r9 e1
    exact ⟨a, by rw [List.getElem?_append_left (List.getElem?_eq_some_iff.mp a1).1]; exact a1, upd_at a2 (ne_of a2 h1 (fun z => by cases z))⟩
  · subst e2
    exact ⟨t, by rw [e1, ← h2]; simp, upd_at ht (ne_of ht h1 (fun z => by cases z))⟩
theorem RLAt.cat {H H' : Hp} {l1 l2 p : Addr} {r1 r2 : List Row} {xs ys : List V} (a : RLAt H l1 r1) (b : RLAt H l2 r2) (ex : H l1 = some (.lst xs)) (ey : H l2 = some (.lst ys)) (s : Same H H') (hp : H' p = some (.lst (xs ++ ys))) : RLAt H' p (r1 ++ r2) := by
  obtain ⟨as, h1, h2, h3⟩ := a
  obtain ⟨bs, g1, g2, g3⟩ := b
  rw [ex] at h1
  rw [ey] at g1
  cases h1
  cases g1
  refine ⟨as ++ bs, by rw [hp, List.map_append], by rw [List.length_append, List.length_append, h2, g2], fun i r e => ?_⟩
  by_cases hi : i < r1.length
  · rw [List.getElem?_append_left hi] at e
    obtain ⟨a, a1, a2⟩ := h3 i r e
    exact ⟨a, by rw [List.getElem?_append_left (by omega)]; exact a1, s _ _ a2⟩
  · rw [List.getElem?_append_right (by omega)] at e
    obtain ⟨a, a1, a2⟩ := g3 _ r e
    exact ⟨a, by rw [List.getElem?_append_right (by omega), h2]; exact a1, s _ _ a2⟩
theorem RLAt.lst {H : Hp} {l : Addr} {rs : List Row} (h : RLAt H l rs) : ∃ xs, H l = some (.lst xs) ∧ xs.length = rs.length := by
  obtain ⟨as, h1, h2, h3⟩ := h
  exact ⟨_, h1, by rw [List.length_map, h2]⟩
theorem RLAt.prog {H H' : Hp} {l p : Addr} {rs : List Row} {xs : List V} (h : RLAt H l rs) (e : H l = some (.lst xs)) (s : Same H H') (hp : H' p = some (.tup xs)) : ProgAt H' p rs := by
  obtain ⟨as, h1, h2, h3⟩ := h
  rw [e] at h1
  cases h1
  exact ⟨as, hp, h2, fun i r e => let ⟨a, e1, e2⟩ := h3 i r e; ⟨a, e1, s _ _ e2⟩⟩
/-- a literal list of rows -/
inductive Lit (H : Hp) : List Addr → List Row → Prop where
  | nil : Lit H [] []
  | cons {a : Addr} {as : List Addr} {r : Row} {rs : List Row} : H a = some (.tup r.vs) → Lit H as rs → Lit H (a :: as) (r :: rs)
theorem Lit.get {H : Hp} {as : List Addr} {rs : List Row} (h : Lit H as rs) : as.length = rs.length ∧ ∀ (i : Nat) (r : Row), rs[i]? = some r → ∃ a, as[i]? = some a ∧ H a = some (.tup r.vs) := by
  induction h with
  | nil => exact ⟨rfl, fun i r e => by simp at e⟩
  | cons h1 _ ih =>
    refine ⟨by rw [List.length_cons, List.length_cons, ih.1], fun i r e => ?_⟩
    cases i with
    | zero =>
      rw [List.getElem?_cons_zero] at e
      cases e
      exact ⟨_, rfl, h1⟩
    | succ i => exact ih.2 i r (by simpa using e)
theorem RLAt.lit {H : Hp} {l : Addr} {as : List Addr} {rs : List Row} (h : Lit H as rs) (e : H l = some (.lst (as.map V.ref))) : RLAt H l rs := ⟨as, e, h.get.1, h.get.2⟩
theorem Lit.same {H H' : Hp} {as : List Addr} {rs : List Row} (s : Same H H') (h : Lit H as rs) : Lit H' as rs := by
  induction h with
  | nil => exact .nil
  | cons h1 _ ih => exact .cons (s _ _ h1) ih
/-- rows that only lead to marks of their own -/
def GD (d : Str) : Prop := d ≠ ("data" : Str) ∧ dm deedsL d = true
def Blk (rs : List Row) : Prop := ∀ r ∈ rs, GD r.deed ∧ ((dm sIF r.deed = true ∨ r.deed = ("go" : Str) ∨ r.deed = ("at" : Str)) → ∃ m, r.val = .str m ∧ m ∈ marks rs)
theorem Blk.app {a b : List Row} (ha : Blk a) (hb : Blk b) : Blk (a ++ b) := by
  intro r hr
  have em : marks (a ++ b) = marks a ++ marks b := List.map_append ..
  rw [em]
  rcases List.mem_append.mp hr with h | h
  · exact ⟨(ha r h).1, fun z => let ⟨m, e, i⟩ := (ha r h).2 z; ⟨m, e, List.mem_append.mpr (.inl i)⟩⟩
  · exact ⟨(hb r h).1, fun z => let ⟨m, e, i⟩ := (hb r h).2 z; ⟨m, e, List.mem_append.mpr (.inr i)⟩⟩
def Plain (d : Str) : Bool := !(decide (d = ("data" : Str))) && !(dm sIF d) && !(decide (d = ("go" : Str))) && !(decide (d = ("at" : Str))) && dm deedsL d
theorem Blk.plain {rs : List Row} (h : ∀ r ∈ rs, Plain r.deed = true) : Blk rs := by
  intro r hr
  have := h r hr
  unfold Plain at this
  simp only [Bool.and_eq_true, Bool.not_eq_true', decide_eq_false_iff_not] at this
  obtain ⟨⟨⟨⟨a, b⟩, c⟩, e⟩, f⟩ := this
  exact ⟨⟨a, f⟩, fun z => by
    rcases z with z | z | z
    · rw [b] at z; cases z
    · exact absurd z c
    · exact absurd z e⟩
def tab20 : List Nat := [0, 1, 3, 4, 5, 6, 7, 8, 10, 11, 12, 13, 14, 18, 19, 20, 28, 29, 28, 28]
theorem tab20_ok : ∀ a ∈ tab20, a < 31 ∧ (22 ≤ a → a < 27 → False) ∧ a ≠ 27 ∧ ∃ dd, deedsL[a]? = some dd ∧ Plain dd = true := by
  have h : tab20.all (fun a => decide (a < 31) && (decide (a < 22) || decide (27 < a)) && (match deedsL[a]? with | some dd => Plain dd | none => false)) = true := by decide +kernel
  intro a ha
  have q := List.all_eq_true.mp h a ha
  simp only [Bool.and_eq_true, Bool.or_eq_true, decide_eq_true_eq] at q
  obtain ⟨⟨q1, q2⟩, q3⟩ := q
  refine ⟨q1, by omega, by omega, ?_⟩
  cases e : deedsL[a]? with
  | none => rw [e] at q3; cases q3
  | some dd => rw [e] at q3; exact ⟨dd, rfl, q3⟩
theorem strs_get {l : List Str} {i : Nat} {x : Str} (h : l[i]? = some x) : atI (l.map V.str) (i : Int) = some (.str x) := atI_nat (by rw [List.getElem?_map, h]; rfl)
def sp_law_straight (K : PySem.W.Frag) : Sp := fun vs H Q _ => ∃ (d : Addr) (m : Nat), vs = [.ref d, .int (m : Int)] ∧ DeckAt H d ∧ m ≤ 100 ∧ ∀ H' l rs, SB d H H' → DeckAt H' d → H l = none → RLAt H' l rs → rs.length = m → (∀ r ∈ rs, Plain r.deed = true) → Q (.ref l) H'
theorem sc__law_straight : FnScope ["_law_deck_here", "_law_many", "_law_rows", "_law_k", "_law_at", "_law_value_here"] ["_law_deck_here", "_law_many"] (defScope (topS 74)) := ⟨rfl, rfl, rfl, by decide +kernel, rfl, by decide +kernel, by decide +kernel⟩
theorem ok__law_straight (T : Txt K mg) : Ok P w K mg base 3 "_law_straight" ["_law_deck_here", "_law_many"] (sp_law_straight K) := by
  obtain ⟨fd, F⟩ := T.d__law_straight
  obtain ⟨fd_lnext, G_lnext, kp_lnext, b_lnext⟩ := ok__law_next (P := P) (w := w) (base := base) T
  obtain ⟨fd_lvalue, G_lvalue, kp_lvalue, b_lvalue⟩ := ok__law_value (P := P) (w := w) (base := base) T
  obtain ⟨fd_ldeeds, G_ldeeds, kp_ldeeds, b_ldeeds⟩ := ok__law_deeds (P := P) (w := w) (base := base) T
  refine ⟨fd, F.ok sc__law_straight (fun vs H Q E h => ?_) (fun cdv A outer s H vs Q E hr h => ?_), F.kp, F.bindsN fun _ _ _ _ _ _ us hl => match us, hl with | [_, _], _ => rfl⟩
  · obtain ⟨d, m, rfl, _⟩ := h
    rfl
  · obtain ⟨d, m, rfl, hd, hm, q⟩ := h
    have hu := hu_of hr
    refine ⟨_, PSs.nox (pss_cons (ps_set (i := 2) sc__law_straight.nd rfl (by first | exact Or.inl rfl | exact Or.inr rfl) (pe_lst pa_nil))
      (pss_cons (ps_for PassesOwn.never rfl (pi_range1 (by rfl) T.z_range (pa_cons (pv 1) pa_nil)) (pg_name (i := 3) sc__law_straight.nd rfl (by first | exact Or.inl rfl | exact Or.inr rfl))
      (pss_cons (ps_set (i := 4) sc__law_straight.nd rfl (by first | exact Or.inl rfl | exact Or.inr rfl) (pe_ix ix_list (pe_lst (pa_cons pe_int (pa_cons pe_int (pa_cons pe_int (pa_cons pe_int (pa_cons pe_int (pa_cons pe_int (pa_cons pe_int (pa_cons pe_int (pa_cons pe_int (pa_cons pe_int (pa_cons pe_int (pa_cons pe_int (pa_cons pe_int (pa_cons pe_int (pa_cons pe_int (pa_cons pe_int (pa_cons pe_int (pa_cons pe_int (pa_cons pe_int (pa_cons pe_int pa_nil))))))))))))))))))))) (pe_op op_mod (pe_call G_lnext (hr.mono (by decide)) (by rfl) T.g__law_next kp_lnext b_lnext .nil pass0 (pa_cons (pv 0) pa_nil)) pe_int) (fun _ _ => rfl)))
      (pss_cons (ps_set (i := 5) sc__law_straight.nd rfl (by first | exact Or.inl rfl | exact Or.inr rfl) (pe_call G_lvalue hr (by rfl) T.g__law_value kp_lvalue b_lvalue .nil pass0 (pa_cons (pv 0) (pa_cons (pv 4) (pa_cons (pe_lst pa_nil) (pa_cons (pe_lst pa_nil) pa_nil))))))
      (Evl.pss_cut (ps_if (pt_cmpR op_eq (pv 4) pe_int (nomark _))
      (pss_one (ps_set (i := 5) sc__law_straight.nd rfl (by first | exact Or.inl rfl | exact Or.inr rfl) (pe_op op_add pe_int (pe_op op_mod (pv 5) pe_int))))
      pss_nil)
      (pss_one (ps_expr (pe_bm PySem.F.plainAttrs_list PySem.F.slot_list_append PySem.F.type_list_append mt_append (pv 2) (pa_cons (pe_tup (pa_cons pe_str (pa_cons (pe_ix ix_list (pe_call0 G_ldeeds (hr.mono (by decide)) (by rfl) T.g__law_deeds kp_ldeeds b_ldeeds .nil pass0) (pv 4) (fun _ _ => rfl)) (pa_cons (pv 5) pa_nil)))) pa_nil))))))))
      (pss_one (ps_ret (pv 2))))), ?_⟩
    refine ⟨Nat.zero_le _, fun l nl => ?_⟩
    have hld := hd.ne nl
    have s1 := same_new (o := .lst []) nl
    have e1 : upd H l (.lst []) l = some (.lst []) := upd_same
    have b1 := SB.of (d := d) s1
    have hd1 := hd.same s1
    generalize upd H l (.lst []) = H1 at *
    refine ⟨_, rfl, _, rfl, by omega, by omega, for_it walk_rng (fun i σ H' => ∃ (rs : List Row) (x3 x4 x5 : Option V), σ = [some (.ref d), some (.int (m : Int)), some (.ref l), x3, x4, x5] ∧ SB d H H' ∧ DeckAt H' d ∧ RLAt H' l rs ∧ rs.length = i ∧ ∀ r ∈ rs, Plain r.deed = true)
      ⟨[], none, none, none, rfl, b1, hd1, RLAt.nil e1, rfl, fun r hr => by cases hr⟩ (fun _ _ _ _ _ => trivial) ?_ ?_⟩
    · rintro i xv σ H2 H' hi ⟨rs, x3, x4, x5, rfl, b2, hd2, rl, len, pl⟩ ⟨rfl, rfl⟩
      refine ⟨by show 20 ≤ sizeLine; decide, fun l1 nl1 => ?_⟩
      have s3 := same_new (o := .lst [V.int 0, V.int 1, V.int 3, V.int 4, V.int 5, V.int 6, V.int 7, V.int 8, V.int 10, V.int 11, V.int 12, V.int 13, V.int 14, V.int 18, V.int 19, V.int 20, V.int 28, V.int 29, V.int 28, V.int 28]) nl1
      have e3 : upd H' l1 (.lst [V.int 0, V.int 1, V.int 3, V.int 4, V.int 5, V.int 6, V.int 7, V.int 8, V.int 10, V.int 11, V.int 12, V.int 13, V.int 14, V.int 18, V.int 19, V.int 20, V.int 28, V.int 29, V.int 28, V.int 28]) l1 = some (.lst (nV tab20)) := upd_same
      have hl1 := hd2.ne nl1
      have b3 := b2.trans (SB.of (d := d) s3)
      have hd3 := hd2.same s3
      have rl3 := rl.same s3
      generalize upd H' l1 (.lst [V.int 0, V.int 1, V.int 3, V.int 4, V.int 5, V.int 6, V.int 7, V.int 8, V.int 10, V.int 11, V.int 12, V.int 13, V.int 14, V.int 18, V.int 19, V.int 20, V.int 28, V.int 29, V.int 28, V.int 28]) = H3 at *
      refine ⟨_, rfl, d, rfl, hd3, fun H4 x s4 hd4 => ?_⟩
      have b4 := b3.trans s4
      have e4 := s4.lst hl1 e3
      have rl4 := rl3.sb s4 hd3 hld
      obtain ⟨j, j1, j2⟩ := mod_lt_len (x := x) (n := 20) (by decide)
      obtain ⟨a, ea⟩ : ∃ a, tab20[j]? = some a := ⟨_, List.getElem?_eq_getElem (show j < tab20.length from j2)⟩
      obtain ⟨a1, a2, a3, dd, a4, a5⟩ := tab20_ok a (List.mem_of_getElem? ea)
      refine ⟨_, _, rfl, rfl, (by show (0 : Int) < 20; decide), l1, _, _, _, rfl, rfl, sqL e4, (by show atI (nV tab20) (x % ((20 : Nat) : Int)) = _; rw [j1]; exact atI_nat (nV_at ea)), ?_⟩
      refine ⟨_, rfl, _, rfl, Nat.zero_le _, fun ml nml => ⟨Nat.zero_le _, fun tl ntl => ?_⟩⟩
      have s5 := (same_new (o := .lst []) nml).trans (same_new (o := .lst []) ntl)
      have em5 : upd (upd H4 ml (.lst [])) tl (.lst []) ml = some (.lst []) := same_new ntl _ _ upd_same
      have et5 : upd (upd H4 ml (.lst [])) tl (.lst []) tl = some (.lst []) := upd_same
      have hml := hd4.ne nml
      have htl := (hd4.same (same_new (o := .lst []) nml)).ne ntl
      have b5 := b4.trans (SB.of (d := d) s5)
      have hd5 := hd4.same s5
      have rl5 := rl4.same s5
      generalize upd (upd H4 ml (.lst [])) tl (.lst []) = H5 at *
      refine ⟨d, a, ml, tl, [], [], rfl, hd5, a1, em5, et5, hml, htl, fun z1 z2 => absurd (a2 z1 z2) id, fun z => absurd z a3, fun H6 v s6 hd6 vok => ?_⟩
      have b6 := b5.trans s6
      have rl6 := rl5.sb s6 hd5 hld
      refine ⟨fun σ' H7 => ∃ v', σ' = [some (.ref d), some (.int (m : Int)), some (.ref l), some (.int (i : Int)), some (.int (a : Int)), some v'] ∧ H7 = H6, ?_, ?_⟩
      · refine ⟨_, rfl, rfl, _, rfl, ite2 (fun z => ?_) (fun z => ⟨v, rfl, rfl⟩)⟩
        have z2 : a = 28 := by
          have := V.int.inj (of_decide_eq_true z)
          omega
        obtain ⟨y, rfl⟩ := vok.2.2 z2
        exact ⟨_, rfl, _, _, rfl, rfl, (by show (0 : Int) < 19; decide), _, _, rfl, rfl, _, rfl, rfl⟩
      · rintro σ' H7 ⟨v', rfl, rfl⟩
        obtain ⟨xs, ex, lx⟩ := rl6.lst
        refine ⟨_, rfl, .inl ⟨rfl, _, sqL ex⟩, rfl, fun H8 dl s8 n8 e8 => ?_⟩
        refine ⟨_, rfl, dl, _, _, _, rfl, rfl, sqL e8, strs_get a4, _, rfl, by show 3 ≤ sizeLine; decide, fun t nt => ?_⟩
        have s9 := s8.trans (same_new (o := .tup [.str ("" : Str), .str dd, v']) nt)
        have e9 : upd H8 t (.tup [.str ("" : Str), .str dd, v']) t = some (.tup (Row.vs ⟨"", dd, v'⟩)) := upd_same
        have b9 := b6.trans (SB.of (d := d) s9)
        have hd9 := hd6.same s9
        have rl9 := rl6.same s9
        generalize upd H8 t (.tup [.str ("" : Str), .str dd, v']) = H9 at *
        obtain ⟨xs9, ex9, lx9, rn⟩ := rl9.snoc e9
        refine ⟨l, _, _, rfl, rfl, ex9, szl (by omega), ?_⟩
        refine ⟨rs ++ [⟨"", dd, v'⟩], _, _, _, rfl, ?_, ?_, rn, by rw [List.length_append, len]; rfl, fun r hr => ?_⟩
        · exact fun b o hb e => by
            rw [upd_ne (ne_of_none e nl)]
            exact b9 b o hb e
        · obtain ⟨ns, en⟩ := hd9
          exact ⟨ns, upd_at en hld.symm⟩
        · rcases List.mem_append.mp hr with z | z
          · exact pl r z
          · rw [List.mem_singleton.mp z]
            exact a5
    · rintro σ H' ⟨rs, x3, x4, x5, rfl, b2, hd2, rl, len, pl⟩
      exact ⟨_, rfl, q _ l rs b2 hd2 nl rl (by omega) pl⟩
end
end B65

end

section
set_option Elab.async false
set_option linter.all false
set_option maxRecDepth 100000
set_option maxHeartbeats 1000000
namespace B65
open PySem PySem.Spec PyProof.Rows L2
section
variable {P : Program} {w : World} {K : PySem.W.Frag} {mg : Str → Option Value} {base : Heap}
theorem SB.nn {d l : Addr} {H H' : Hp} (s : SB d H H') (hd : DeckAt H' d) (n : H' l = none) : H l = none := by
  cases q : H l with
  | none => rfl
  | some o => rw [s _ _ (hd.ne n) q] at n; cases n
theorem sb_mut {d l : Addr} {H H' : Hp} {o : HO} (s : SB d H H') (n : H l = none) : SB d H (upd H' l o) := fun b u hb e => by
  rw [upd_ne (ne_of_none e n)]
  exact s b u hb e
theorem DeckAt.up2 {d l : Addr} {H : Hp} {o : HO} (h : DeckAt H d) (n : l ≠ d) : DeckAt (upd H l o) d := let ⟨ns, e⟩ := h; ⟨ns, upd_at e n.symm⟩
theorem plain_row {r : Row} (h : Plain r.deed = true) : ∀ x ∈ [r], Plain x.deed = true := fun x hx => by rw [List.mem_singleton.mp hx]; exact h
theorem Blk.cons {r : Row} {rs : List Row} (h1 : Plain r.deed = true) (h2 : Blk rs) : Blk (r :: rs) := (Blk.plain (plain_row h1)).app h2
theorem Blk.jump {r : Row} {rs : List Row} {m : Str} (h1 : GD r.deed) (hv : r.val = .str m) (hm : m ∈ marks (rs ++ [r])) (h2 : Blk rs) : Blk (rs ++ [r]) := by
  intro x hx
  rcases List.mem_append.mp hx with h | h
  · have em : marks (rs ++ [r]) = marks rs ++ marks [r] := List.map_append ..
    exact ⟨(h2 x h).1, fun z => let ⟨m, e, i⟩ := (h2 x h).2 z; ⟨m, e, by rw [em]; exact List.mem_append.mpr (.inl i)⟩⟩
  · rw [List.mem_singleton.mp h]
    exact ⟨h1, fun _ => ⟨m, hv, hm⟩⟩
theorem plain_no {d : Str} (h : Plain d = true) : ¬ (dm sIF d = true ∨ d = ("go" : Str) ∨ d = ("at" : Str)) := by
  unfold Plain at h
  simp only [Bool.and_eq_true, Bool.not_eq_true', decide_eq_false_iff_not] at h
  obtain ⟨⟨⟨⟨a, b⟩, c⟩, e⟩, f⟩ := h
  intro z
  rcases z with z | z | z
  · rw [b] at z; cases z
  · exact c z
  · exact e z
theorem plain_nd {d : Str} (h : Plain d = true) : GD d := by
  unfold Plain at h
  simp only [Bool.and_eq_true, Bool.not_eq_true', decide_eq_false_iff_not] at h
  exact ⟨h.1.1.1.1, h.2⟩
theorem pl_eye : Plain ("eye" : Str) = true := by decide +kernel
theorem pl_test : Plain ("test" : Str) = true := by decide +kernel
theorem pl_rest : Plain ("rest" : Str) = true := by decide +kernel
theorem pl_wait : Plain ("wait" : Str) = true := by decide +kernel
theorem pl_down : Plain ("down" : Str) = true := by decide +kernel
theorem pl_setx : Plain ("setx" : Str) = true := by decide +kernel
theorem pl_set : Plain ("set" : Str) = true := by decide +kernel
theorem pl_door : Plain ("door" : Str) = true := by decide +kernel
theorem pl_idle : Plain ("idle" : Str) = true := by decide +kernel
theorem pl_toa : Plain ("toa" : Str) = true := by decide +kernel
theorem pl_up : Plain ("up" : Str) = true := by decide +kernel
def way4 : List Str := ["ifz", "ifn", "ifc", "ifd"]
theorem way4_ok : ∀ w ∈ way4, GD w ∧ dm sIF w = true := by unfold GD; decide +kernel
def sp_law_block (K : PySem.W.Frag) : Sp := fun vs H Q _ => ∃ (d : Addr) (nm : Str) (so mo : Nat), vs = [.ref d, .str nm, .int (so : Int), .int (mo : Int)] ∧ DeckAt H d ∧ mo ≤ 5 ∧ ∀ H' l rs, SB d H H' → DeckAt H' d → H l = none → RLAt H' l rs → rs.length ≤ 7 → Blk rs → Q (.ref l) H'
theorem sc__law_block : FnScope ["_law_deck_here", "_law_name_here", "_law_sort", "_law_most_here", "_law_head", "_law_rows", "_law_way_here"] ["_law_deck_here", "_law_name_here", "_law_sort", "_law_most_here"] (defScope (topS 75)) := ⟨rfl, rfl, rfl, by decide +kernel, rfl, by decide +kernel, by decide +kernel⟩
theorem ok__law_block (T : Txt K mg) : Ok P w K mg base 4 "_law_block" ["_law_deck_here", "_law_name_here", "_law_sort", "_law_most_here"] (sp_law_block K) := by
  obtain ⟨fd, F⟩ := T.d__law_block
  obtain ⟨fd_lnext, G_lnext, kp_lnext, b_lnext⟩ := ok__law_next (P := P) (w := w) (base := base) T
  obtain ⟨fd_lstraight, G_lstraight, kp_lstraight, b_lstraight⟩ := ok__law_straight (P := P) (w := w) (base := base) T
  refine ⟨fd, F.ok sc__law_block (fun vs H Q E h => ?_) (fun cdv A outer s H vs Q E hr h => ?_), F.kp, F.bindsN fun _ _ _ _ _ _ us hl => match us, hl with | [_, _, _, _], _ => rfl⟩
  · obtain ⟨d, nm, so, mo, rfl, _⟩ := h
    rfl
  · obtain ⟨d, nm, so, mo, rfl, hd, hmo, q⟩ := h
    have hu := hu_of hr
    refine ⟨_, PSs.nox (pss_cons (ps_if (pt_cmpR op_eq (pv 2) pe_int (nomark _))
      (pss_cons (ps_set (i := 4) sc__law_block.nd rfl (by first | exact Or.inl rfl | exact Or.inr rfl) (pe_lst (pa_cons (pe_tup (pa_cons pe_str (pa_cons pe_str (pa_cons (pe_op op_add pe_int (pe_op op_mod (pe_call G_lnext (hr.mono (by decide)) (by rfl) T.g__law_next kp_lnext b_lnext .nil pass0 (pa_cons (pv 0) pa_nil)) pe_int)) pa_nil)))) (pa_cons (pe_tup (pa_cons (pv 1) (pa_cons pe_str (pa_cons pe_non pa_nil)))) pa_nil))))
      (pss_cons (ps_set (i := 5) sc__law_block.nd rfl (by first | exact Or.inl rfl | exact Or.inr rfl) (pe_call G_lstraight hr (by rfl) T.g__law_straight kp_lstraight b_lstraight .nil pass0 (pa_cons (pv 0) (pa_cons (pe_op op_mod (pe_call G_lnext (hr.mono (by decide)) (by rfl) T.g__law_next kp_lnext b_lnext .nil pass0 (pa_cons (pv 0) pa_nil)) (pe_op op_add pe_int (pe_op op_fdiv (pv 3) pe_int))) pa_nil))))
      (pss_one (ps_ret (pe_op op_cat (pe_op op_cat (pv 4) (pv 5)) (pe_lst (pa_cons (pe_tup (pa_cons pe_str (pa_cons pe_str (pa_cons pe_non pa_nil)))) (pa_cons (pe_tup (pa_cons pe_str (pa_cons pe_str (pa_cons pe_non pa_nil)))) (pa_cons (pe_tup (pa_cons pe_str (pa_cons pe_str (pa_cons (pv 1) pa_nil)))) pa_nil)))))))))
      pss_nil)
      (pss_cons (ps_if (pt_cmpR op_eq (pv 2) pe_int (nomark _))
      (pss_cons (ps_set (i := 6) sc__law_block.nd rfl (by first | exact Or.inl rfl | exact Or.inr rfl) (pe_ix ix_list (pe_lst (pa_cons pe_str (pa_cons pe_str (pa_cons pe_str (pa_cons pe_str pa_nil))))) (pe_op op_mod (pe_call G_lnext (hr.mono (by decide)) (by rfl) T.g__law_next kp_lnext b_lnext .nil pass0 (pa_cons (pv 0) pa_nil)) pe_int) (fun _ _ => rfl)))
      (pss_cons (ps_set (i := 4) sc__law_block.nd rfl (by first | exact Or.inl rfl | exact Or.inr rfl) (pe_lst (pa_cons (pe_tup (pa_cons pe_str (pa_cons pe_str (pa_cons (pe_op op_mod (pe_call G_lnext (hr.mono (by decide)) (by rfl) T.g__law_next kp_lnext b_lnext .nil pass0 (pa_cons (pv 0) pa_nil)) pe_int) pa_nil)))) (pa_cons (pe_tup (pa_cons pe_str (pa_cons pe_str (pa_cons (pe_op op_mod (pe_call G_lnext (hr.mono (by decide)) (by rfl) T.g__law_next kp_lnext b_lnext .nil pass0 (pa_cons (pv 0) pa_nil)) pe_int) pa_nil)))) (pa_cons (pe_tup (pa_cons pe_str (pa_cons (pv 6) (pa_cons (pv 1) pa_nil)))) pa_nil)))))
      (pss_cons (ps_set (i := 5) sc__law_block.nd rfl (by first | exact Or.inl rfl | exact Or.inr rfl) (pe_call G_lstraight hr (by rfl) T.g__law_straight kp_lstraight b_lstraight .nil pass0 (pa_cons (pv 0) (pa_cons (pe_op op_add pe_int (pe_op op_mod (pe_call G_lnext (hr.mono (by decide)) (by rfl) T.g__law_next kp_lnext b_lnext .nil pass0 (pa_cons (pv 0) pa_nil)) pe_int)) pa_nil))))
      (pss_one (ps_ret (pe_op op_cat (pe_op op_cat (pv 4) (pv 5)) (pe_lst (pa_cons (pe_tup (pa_cons (pv 1) (pa_cons pe_str (pa_cons pe_non pa_nil)))) (pa_cons (pe_tup (pa_cons pe_str (pa_cons pe_str (pa_cons pe_non pa_nil)))) pa_nil)))))))))
      pss_nil)
      (pss_one (ps_ret (pe_op op_cat (pe_call G_lstraight hr (by rfl) T.g__law_straight kp_lstraight b_lstraight .nil pass0 (pa_cons (pv 0) (pa_cons (pe_op op_mod (pe_call G_lnext (hr.mono (by decide)) (by rfl) T.g__law_next kp_lnext b_lnext .nil pass0 (pa_cons (pv 0) pa_nil)) (pe_op op_add pe_int (pv 3))) pa_nil))) (pe_lst (pa_cons (pe_tup (pa_cons pe_str (pa_cons pe_str (pa_cons pe_non pa_nil)))) pa_nil))))))), ?_⟩
    have H0 : True := trivial
    have hd0 := hd
    have b0 := SB.refl d H
    refine ⟨_, rfl, rfl, _, rfl, ite2 (fun c0 => ?_) (fun c0 => ?_)⟩
    · clear c0
      refine ⟨_, rfl, d, rfl, hd0, fun H1 x1 s1 hd1 => ?_⟩
      have b1 := b0.trans s1
      refine ⟨_, _, rfl, rfl, (by show (0 : Int) < 6; decide), _, _, rfl, rfl, ?_⟩
      refine ⟨by show 3 ≤ sizeLine; decide, fun t1 nt1 => ?_⟩
      have s2 := same_new (o := .tup [.str ("" : Str), .str ("setx" : Str), .int (1 + x1 % 6)]) nt1
      have et1 : upd H1 t1 (.tup [.str ("" : Str), .str ("setx" : Str), .int (1 + x1 % 6)]) t1 = some (.tup [.str ("" : Str), .str ("setx" : Str), .int (1 + x1 % 6)]) := upd_same
      have net1 := hd1.ne nt1
      have b2 := b1.trans (SB.of (d := d) s2)
      have hd2 := hd1.same s2
      generalize upd H1 t1 (.tup [.str ("" : Str), .str ("setx" : Str), .int (1 + x1 % 6)]) = H2 at *
      refine ⟨_, rfl, by show 3 ≤ sizeLine; decide, fun t2 nt2 => ?_⟩
      have s3 := same_new (o := .tup [.str nm, .str ("rest" : Str), .non]) nt2
      have et2 : upd H2 t2 (.tup [.str nm, .str ("rest" : Str), .non]) t2 = some (.tup [.str nm, .str ("rest" : Str), .non]) := upd_same
      have net2 := hd2.ne nt2
      have b3 := b2.trans (SB.of (d := d) s3)
      have hd3 := hd2.same s3
      replace et1 := s3 _ _ et1
      generalize upd H2 t2 (.tup [.str nm, .str ("rest" : Str), .non]) = H3 at *
      refine ⟨by show 2 ≤ sizeLine; decide, fun hl nhl => ?_⟩
      have s4 := same_new (o := .lst [.ref t1, .ref t2]) nhl
      have ehl : upd H3 hl (.lst [.ref t1, .ref t2]) hl = some (.lst [.ref t1, .ref t2]) := upd_same
      have nehl := hd3.ne nhl
      have b4 := b3.trans (SB.of (d := d) s4)
      have hd4 := hd3.same s4
      replace et1 := s4 _ _ et1
      replace et2 := s4 _ _ et2
      generalize upd H3 hl (.lst [.ref t1, .ref t2]) = H4 at *
      have rhl : RLAt H4 hl [⟨("" : Str), ("setx" : Str), .int (1 + x1 % 6)⟩, ⟨nm, ("rest" : Str), .non⟩] := RLAt.lit (as := [t1, t2]) (.cons (show H4 t1 = some (.tup (Row.vs ⟨("" : Str), ("setx" : Str), .int (1 + x1 % 6)⟩)) from et1) (.cons (show H4 t2 = some (.tup (Row.vs ⟨nm, ("rest" : Str), .non⟩)) from et2) .nil)) ehl
      refine ⟨_, rfl, _, rfl, d, rfl, hd4, fun H5 x2 s5 hd5 => ?_⟩
      have b5 := b4.trans s5
      replace rhl := rhl.sb s5 hd4 nehl
      obtain ⟨j, j1, j2⟩ := mod_lt_len (x := x2) (n := 1 + mo / 2) (by omega)
      have j3 : x2 % (1 + (mo : Int) / 2) = (j : Int) := by rw [show (1 + (mo : Int) / 2) = ((1 + mo / 2 : Nat) : Int) by omega]; exact j1
      refine ⟨_, rfl, _, _, rfl, rfl, ⟨by decide, by decide⟩, _, _, rfl, rfl, _, _, rfl, rfl, (by show (0 : Int) < 1 + (mo : Int) / 2; omega), d, j, congrArg (fun z => [V.ref d, V.int z]) j3, hd5, by omega, fun H6 l rs s6 hd6 nl rl len pl => ?_⟩
      have nel := hd5.ne nl
      have b6 := b5.trans s6
      replace rhl := rhl.sb s6 hd5 nehl
      obtain ⟨xshl, xhl, lxhl⟩ := rhl.lst
      obtain ⟨xsl, xl, lxl⟩ := rl.lst
      have szp1 : xshl.length + xsl.length ≤ sizeLine := sz (by rw [lxhl, lxl]; first | (simp only [List.length_append, List.length_cons, List.length_nil]; omega) | omega)
      refine ⟨_, rfl, _, rfl, hl, l, _, _, rfl, rfl, xhl, xl, szp1, fun p1 np1 => ?_⟩
      have rp1 := RLAt.cat rhl rl xhl xl (same_new (o := .lst (xshl ++ xsl)) np1) upd_same
      have nep1 := hd6.ne np1
      have s7 := same_new (o := .lst (xshl ++ xsl)) np1
      have b7 := b6.trans (SB.of (d := d) s7)
      have hd7 := hd6.same s7
      have nop1 := b6.nn hd6 np1
      replace rhl := rhl.same s7
      replace rl := rl.same s7
      generalize upd H6 p1 (.lst (xshl ++ xsl)) = H7 at *
      refine ⟨by show 3 ≤ sizeLine; decide, fun t3 nt3 => ?_⟩
      have s8 := same_new (o := .tup [.str ("" : Str), .str ("wait" : Str), .non]) nt3
      have et3 : upd H7 t3 (.tup [.str ("" : Str), .str ("wait" : Str), .non]) t3 = some (.tup [.str ("" : Str), .str ("wait" : Str), .non]) := upd_same
      have net3 := hd7.ne nt3
      have b8 := b7.trans (SB.of (d := d) s8)
      have hd8 := hd7.same s8
      replace rhl := rhl.same s8
      replace rl := rl.same s8
      replace rp1 := rp1.same s8
      generalize upd H7 t3 (.tup [.str ("" : Str), .str ("wait" : Str), .non]) = H8 at *
      refine ⟨by show 3 ≤ sizeLine; decide, fun t4 nt4 => ?_⟩
      have s9 := same_new (o := .tup [.str ("" : Str), .str ("down" : Str), .non]) nt4
      have et4 : upd H8 t4 (.tup [.str ("" : Str), .str ("down" : Str), .non]) t4 = some (.tup [.str ("" : Str), .str ("down" : Str), .non]) := upd_same
      have net4 := hd8.ne nt4
      have b9 := b8.trans (SB.of (d := d) s9)
      have hd9 := hd8.same s9
      replace rhl := rhl.same s9
      replace rl := rl.same s9
      replace rp1 := rp1.same s9
      replace et3 := s9 _ _ et3
      generalize upd H8 t4 (.tup [.str ("" : Str), .str ("down" : Str), .non]) = H9 at *
      refine ⟨_, rfl, by show 3 ≤ sizeLine; decide, fun t5 nt5 => ?_⟩
      have s10 := same_new (o := .tup [.str ("" : Str), .str ("ifn" : Str), .str nm]) nt5
      have et5 : upd H9 t5 (.tup [.str ("" : Str), .str ("ifn" : Str), .str nm]) t5 = some (.tup [.str ("" : Str), .str ("ifn" : Str), .str nm]) := upd_same
      have net5 := hd9.ne nt5
      have b10 := b9.trans (SB.of (d := d) s10)
      have hd10 := hd9.same s10
      replace rhl := rhl.same s10
      replace rl := rl.same s10
      replace rp1 := rp1.same s10
      replace et3 := s10 _ _ et3
      replace et4 := s10 _ _ et4
      generalize upd H9 t5 (.tup [.str ("" : Str), .str ("ifn" : Str), .str nm]) = H10 at *
      refine ⟨by show 3 ≤ sizeLine; decide, fun el nel => ?_⟩
      have s11 := same_new (o := .lst [.ref t3, .ref t4, .ref t5]) nel
      have eel : upd H10 el (.lst [.ref t3, .ref t4, .ref t5]) el = some (.lst [.ref t3, .ref t4, .ref t5]) := upd_same
      have neel := hd10.ne nel
      have b11 := b10.trans (SB.of (d := d) s11)
      have hd11 := hd10.same s11
      replace rhl := rhl.same s11
      replace rl := rl.same s11
      replace rp1 := rp1.same s11
      replace et3 := s11 _ _ et3
      replace et4 := s11 _ _ et4
      replace et5 := s11 _ _ et5
      generalize upd H10 el (.lst [.ref t3, .ref t4, .ref t5]) = H11 at *
      have rel : RLAt H11 el [⟨("" : Str), ("wait" : Str), .non⟩, ⟨("" : Str), ("down" : Str), .non⟩, ⟨("" : Str), ("ifn" : Str), .str nm⟩] := RLAt.lit (as := [t3, t4, t5]) (.cons (show H11 t3 = some (.tup (Row.vs ⟨("" : Str), ("wait" : Str), .non⟩)) from et3) (.cons (show H11 t4 = some (.tup (Row.vs ⟨("" : Str), ("down" : Str), .non⟩)) from et4) (.cons (show H11 t5 = some (.tup (Row.vs ⟨("" : Str), ("ifn" : Str), .str nm⟩)) from et5) .nil))) eel
      obtain ⟨xsp1, xp1, lxp1⟩ := rp1.lst
      obtain ⟨xsel, xel, lxel⟩ := rel.lst
      have szp2 : xsp1.length + xsel.length ≤ sizeLine := sz (by rw [lxp1, lxel]; first | (simp only [List.length_append, List.length_cons, List.length_nil]; omega) | omega)
      refine ⟨p1, el, _, _, rfl, rfl, xp1, xel, szp2, fun p2 np2 => ?_⟩
      have rp2 := RLAt.cat rp1 rel xp1 xel (same_new (o := .lst (xsp1 ++ xsel)) np2) upd_same
      have nep2 := hd11.ne np2
      have s12 := same_new (o := .lst (xsp1 ++ xsel)) np2
      have b12 := b11.trans (SB.of (d := d) s12)
      have hd12 := hd11.same s12
      have nop2 := b11.nn hd11 np2
      replace rhl := rhl.same s12
      replace rl := rl.same s12
      replace rp1 := rp1.same s12
      replace rel := rel.same s12
      generalize upd H11 p2 (.lst (xsp1 ++ xsel)) = H12 at *
      refine q _ p2 _ b12 hd12 nop2 rp2 (by simp only [List.length_append, List.length_cons, List.length_nil]; omega) ?_
      have bl1 : Blk ([⟨("" : Str), ("setx" : Str), .int (1 + x1 % 6)⟩, ⟨nm, ("rest" : Str), .non⟩] ++ rs ++ [⟨("" : Str), ("wait" : Str), .non⟩, ⟨("" : Str), ("down" : Str), .non⟩]) := Blk.plain (fun r hr => ?_)
      · have bl2 := Blk.jump (r := ⟨("" : Str), ("ifn" : Str), .str nm⟩) (m := nm) (show GD ("ifn" : Str) by unfold GD; decide +kernel) rfl (by simp [marks]) bl1
        simpa [List.append_assoc] using bl2
      · simp only [List.mem_append, List.mem_cons, List.not_mem_nil, or_false] at hr
        rcases hr with ((z | z) | z) | (z | z)
        · subst z; exact pl_setx
        · subst z; exact pl_rest
        · exact pl r z
        · subst z; exact pl_wait
        · subst z; exact pl_down
    refine ⟨_, rfl, rfl, _, rfl, ite2 (fun c1 => ?_) (fun c1 => ?_)⟩
    · clear c0 c1
      refine ⟨by show 4 ≤ sizeLine; decide, fun wl nwl => ?_⟩
      have s1 := same_new (o := .lst [V.str "ifz", V.str "ifn", V.str "ifc", V.str "ifd"]) nwl
      have ewl : upd H wl (.lst [V.str "ifz", V.str "ifn", V.str "ifc", V.str "ifd"]) wl = some (.lst (way4.map V.str)) := upd_same
      have newl := hd0.ne nwl
      have b1 := b0.trans (SB.of (d := d) s1)
      have hd1 := hd0.same s1
      generalize upd H wl (.lst [V.str "ifz", V.str "ifn", V.str "ifc", V.str "ifd"]) = H1 at *
      refine ⟨_, rfl, d, rfl, hd1, fun H2 x1 s2 hd2 => ?_⟩
      have b2 := b1.trans s2
      replace ewl := s2.lst newl ewl
      obtain ⟨j0, k1, k2⟩ := mod_lt_len (x := x1) (n := 4) (by decide)
      obtain ⟨wd, ewd⟩ : ∃ wd, way4[j0]? = some wd := ⟨_, List.getElem?_eq_getElem (show j0 < way4.length from k2)⟩
      refine ⟨_, _, rfl, rfl, (by show (0 : Int) < 4; decide), wl, _, _, _, rfl, rfl, sqL ewl, (by show atI (way4.map V.str) (x1 % ((4 : Nat) : Int)) = _; rw [k1]; exact strs_get ewd), ?_⟩
      refine ⟨_, rfl, d, rfl, hd2, fun H3 x3 s3 hd3 => ?_⟩
      have b3 := b2.trans s3
      refine ⟨_, _, rfl, rfl, (by show (0 : Int) < 6; decide), ?_⟩
      refine ⟨by show 3 ≤ sizeLine; decide, fun t1 nt1 => ?_⟩
      have s4 := same_new (o := .tup [.str ("" : Str), .str ("eye" : Str), .int (x3 % 6)]) nt1
      have et1 : upd H3 t1 (.tup [.str ("" : Str), .str ("eye" : Str), .int (x3 % 6)]) t1 = some (.tup [.str ("" : Str), .str ("eye" : Str), .int (x3 % 6)]) := upd_same
      have net1 := hd3.ne nt1
      have b4 := b3.trans (SB.of (d := d) s4)
      have hd4 := hd3.same s4
      generalize upd H3 t1 (.tup [.str ("" : Str), .str ("eye" : Str), .int (x3 % 6)]) = H4 at *
      refine ⟨_, rfl, d, rfl, hd4, fun H5 x4 s5 hd5 => ?_⟩
      have b5 := b4.trans s5
      replace et1 := s5.tup hd4 et1
      refine ⟨_, _, rfl, rfl, (by show (0 : Int) < 4; decide), ?_⟩
      refine ⟨by show 3 ≤ sizeLine; decide, fun t2 nt2 => ?_⟩
      have s6 := same_new (o := .tup [.str ("" : Str), .str ("test" : Str), .int (x4 % 4)]) nt2
      have et2 : upd H5 t2 (.tup [.str ("" : Str), .str ("test" : Str), .int (x4 % 4)]) t2 = some (.tup [.str ("" : Str), .str ("test" : Str), .int (x4 % 4)]) := upd_same
      have net2 := hd5.ne nt2
      have b6 := b5.trans (SB.of (d := d) s6)
      have hd6 := hd5.same s6
      replace et1 := s6 _ _ et1
      generalize upd H5 t2 (.tup [.str ("" : Str), .str ("test" : Str), .int (x4 % 4)]) = H6 at *
      refine ⟨_, rfl, _, rfl, by show 3 ≤ sizeLine; decide, fun t6 nt6 => ?_⟩
      have s7 := same_new (o := .tup [.str ("" : Str), .str wd, .str nm]) nt6
      have et6 : upd H6 t6 (.tup [.str ("" : Str), .str wd, .str nm]) t6 = some (.tup [.str ("" : Str), .str wd, .str nm]) := upd_same
      have net6 := hd6.ne nt6
      have b7 := b6.trans (SB.of (d := d) s7)
      have hd7 := hd6.same s7
      replace et1 := s7 _ _ et1
      replace et2 := s7 _ _ et2
      generalize upd H6 t6 (.tup [.str ("" : Str), .str wd, .str nm]) = H7 at *
      refine ⟨by show 3 ≤ sizeLine; decide, fun hl nhl => ?_⟩
      have s8 := same_new (o := .lst [.ref t1, .ref t2, .ref t6]) nhl
      have ehl : upd H7 hl (.lst [.ref t1, .ref t2, .ref t6]) hl = some (.lst [.ref t1, .ref t2, .ref t6]) := upd_same
      have nehl := hd7.ne nhl
      have b8 := b7.trans (SB.of (d := d) s8)
      have hd8 := hd7.same s8
      replace et1 := s8 _ _ et1
      replace et2 := s8 _ _ et2
      replace et6 := s8 _ _ et6
      generalize upd H7 hl (.lst [.ref t1, .ref t2, .ref t6]) = H8 at *
      have rhl : RLAt H8 hl [⟨("" : Str), ("eye" : Str), .int (x3 % 6)⟩, ⟨("" : Str), ("test" : Str), .int (x4 % 4)⟩, ⟨("" : Str), wd, .str nm⟩] := RLAt.lit (as := [t1, t2, t6]) (.cons (show H8 t1 = some (.tup (Row.vs ⟨("" : Str), ("eye" : Str), .int (x3 % 6)⟩)) from et1) (.cons (show H8 t2 = some (.tup (Row.vs ⟨("" : Str), ("test" : Str), .int (x4 % 4)⟩)) from et2) (.cons (show H8 t6 = some (.tup (Row.vs ⟨("" : Str), wd, .str nm⟩)) from et6) .nil))) ehl
      refine ⟨_, rfl, _, rfl, d, rfl, hd8, fun H9 x2 s9 hd9 => ?_⟩
      have b9 := b8.trans s9
      replace rhl := rhl.sb s9 hd8 nehl
      obtain ⟨j, j1, j2⟩ := mod_lt_len (x := x2) (n := 2) (by decide)
      refine ⟨_, _, rfl, rfl, (by show (0 : Int) < 2; decide), _, _, rfl, rfl, d, 1 + j, congrArg (fun z => [V.ref d, V.int z]) (show 1 + x2 % 2 = ((1 + j : Nat) : Int) by have : x2 % ((2 : Nat) : Int) = x2 % 2 := rfl; omega), hd9, by omega, fun H10 l rs s10 hd10 nl rl len pl => ?_⟩
      have nel := hd9.ne nl
      have b10 := b9.trans s10
      replace rhl := rhl.sb s10 hd9 nehl
      obtain ⟨xshl, xhl, lxhl⟩ := rhl.lst
      obtain ⟨xsl, xl, lxl⟩ := rl.lst
      have szp1 : xshl.length + xsl.length ≤ sizeLine := sz (by rw [lxhl, lxl]; first | (simp only [List.length_append, List.length_cons, List.length_nil]; omega) | omega)
      refine ⟨_, rfl, _, rfl, hl, l, _, _, rfl, rfl, xhl, xl, szp1, fun p1 np1 => ?_⟩
      have rp1 := RLAt.cat rhl rl xhl xl (same_new (o := .lst (xshl ++ xsl)) np1) upd_same
      have nep1 := hd10.ne np1
      have s11 := same_new (o := .lst (xshl ++ xsl)) np1
      have b11 := b10.trans (SB.of (d := d) s11)
      have hd11 := hd10.same s11
      have nop1 := b10.nn hd10 np1
      replace rhl := rhl.same s11
      replace rl := rl.same s11
      generalize upd H10 p1 (.lst (xshl ++ xsl)) = H11 at *
      refine ⟨_, rfl, by show 3 ≤ sizeLine; decide, fun t3 nt3 => ?_⟩
      have s12 := same_new (o := .tup [.str nm, .str ("rest" : Str), .non]) nt3
      have et3 : upd H11 t3 (.tup [.str nm, .str ("rest" : Str), .non]) t3 = some (.tup [.str nm, .str ("rest" : Str), .non]) := upd_same
      have net3 := hd11.ne nt3
      have b12 := b11.trans (SB.of (d := d) s12)
      have hd12 := hd11.same s12
      replace rhl := rhl.same s12
      replace rl := rl.same s12
      replace rp1 := rp1.same s12
      generalize upd H11 t3 (.tup [.str nm, .str ("rest" : Str), .non]) = H12 at *
      refine ⟨by show 3 ≤ sizeLine; decide, fun t4 nt4 => ?_⟩
      have s13 := same_new (o := .tup [.str ("" : Str), .str ("wait" : Str), .non]) nt4
      have et4 : upd H12 t4 (.tup [.str ("" : Str), .str ("wait" : Str), .non]) t4 = some (.tup [.str ("" : Str), .str ("wait" : Str), .non]) := upd_same
      have net4 := hd12.ne nt4
      have b13 := b12.trans (SB.of (d := d) s13)
      have hd13 := hd12.same s13
      replace rhl := rhl.same s13
      replace rl := rl.same s13
      replace rp1 := rp1.same s13
      replace et3 := s13 _ _ et3
      generalize upd H12 t4 (.tup [.str ("" : Str), .str ("wait" : Str), .non]) = H13 at *
      refine ⟨by show 2 ≤ sizeLine; decide, fun el nel => ?_⟩
      have s14 := same_new (o := .lst [.ref t3, .ref t4]) nel
      have eel : upd H13 el (.lst [.ref t3, .ref t4]) el = some (.lst [.ref t3, .ref t4]) := upd_same
      have neel := hd13.ne nel
      have b14 := b13.trans (SB.of (d := d) s14)
      have hd14 := hd13.same s14
      replace rhl := rhl.same s14
      replace rl := rl.same s14
      replace rp1 := rp1.same s14
      replace et3 := s14 _ _ et3
      replace et4 := s14 _ _ et4
      generalize upd H13 el (.lst [.ref t3, .ref t4]) = H14 at *
      have rel : RLAt H14 el [⟨nm, ("rest" : Str), .non⟩, ⟨("" : Str), ("wait" : Str), .non⟩] := RLAt.lit (as := [t3, t4]) (.cons (show H14 t3 = some (.tup (Row.vs ⟨nm, ("rest" : Str), .non⟩)) from et3) (.cons (show H14 t4 = some (.tup (Row.vs ⟨("" : Str), ("wait" : Str), .non⟩)) from et4) .nil)) eel
      obtain ⟨xsp1, xp1, lxp1⟩ := rp1.lst
      obtain ⟨xsel, xel, lxel⟩ := rel.lst
      have szp2 : xsp1.length + xsel.length ≤ sizeLine := sz (by rw [lxp1, lxel]; first | (simp only [List.length_append, List.length_cons, List.length_nil]; omega) | omega)
      refine ⟨p1, el, _, _, rfl, rfl, xp1, xel, szp2, fun p2 np2 => ?_⟩
      have rp2 := RLAt.cat rp1 rel xp1 xel (same_new (o := .lst (xsp1 ++ xsel)) np2) upd_same
      have nep2 := hd14.ne np2
      have s15 := same_new (o := .lst (xsp1 ++ xsel)) np2
      have b15 := b14.trans (SB.of (d := d) s15)
      have hd15 := hd14.same s15
      have nop2 := b14.nn hd14 np2
      replace rhl := rhl.same s15
      replace rl := rl.same s15
      replace rp1 := rp1.same s15
      replace rel := rel.same s15
      generalize upd H14 p2 (.lst (xsp1 ++ xsel)) = H15 at *
      obtain ⟨w1, w2⟩ := way4_ok wd (List.mem_of_getElem? ewd)
      refine q _ p2 _ b15 hd15 nop2 rp2 (by simp only [List.length_append, List.length_cons, List.length_nil]; omega) (fun r hr => ?_)
      simp only [List.mem_append, List.mem_cons, List.not_mem_nil, or_false] at hr
      rcases hr with ((z | z | z) | z) | (z | z)
      · subst z; exact ⟨plain_nd pl_eye, fun h => absurd h (plain_no pl_eye)⟩
      · subst z; exact ⟨plain_nd pl_test, fun h => absurd h (plain_no pl_test)⟩
      · subst z; exact ⟨w1, fun _ => ⟨nm, rfl, by simp [marks]⟩⟩
      · exact ⟨plain_nd (pl r z), fun h => absurd h (plain_no (pl r z))⟩
      · subst z; exact ⟨plain_nd pl_rest, fun h => absurd h (plain_no pl_rest)⟩
      · subst z; exact ⟨plain_nd pl_wait, fun h => absurd h (plain_no pl_wait)⟩
    · clear c0 c1
      refine ⟨_, rfl, _, rfl, d, rfl, hd0, fun H1 x2 s1 hd1 => ?_⟩
      have b1 := b0.trans s1
      obtain ⟨j, j1, j2⟩ := mod_lt_len (x := x2) (n := 1 + mo) (by omega)
      have j3 : x2 % (1 + (mo : Int)) = (j : Int) := by rw [show (1 + (mo : Int)) = ((1 + mo : Nat) : Int) by omega]; exact j1
      refine ⟨_, rfl, _, _, rfl, rfl, _, _, rfl, rfl, (by show (0 : Int) < 1 + (mo : Int); omega), d, j, congrArg (fun z => [V.ref d, V.int z]) j3, hd1, by omega, fun H2 l rs s2 hd2 nl rl len pl => ?_⟩
      have nel := hd1.ne nl
      have b2 := b1.trans s2
      refine ⟨by show 3 ≤ sizeLine; decide, fun t4 nt4 => ?_⟩
      have s3 := same_new (o := .tup [.str ("" : Str), .str ("wait" : Str), .non]) nt4
      have et4 : upd H2 t4 (.tup [.str ("" : Str), .str ("wait" : Str), .non]) t4 = some (.tup [.str ("" : Str), .str ("wait" : Str), .non]) := upd_same
      have net4 := hd2.ne nt4
      have b3 := b2.trans (SB.of (d := d) s3)
      have hd3 := hd2.same s3
      replace rl := rl.same s3
      generalize upd H2 t4 (.tup [.str ("" : Str), .str ("wait" : Str), .non]) = H3 at *
      refine ⟨by show 1 ≤ sizeLine; decide, fun el nel => ?_⟩
      have s4 := same_new (o := .lst [.ref t4]) nel
      have eel : upd H3 el (.lst [.ref t4]) el = some (.lst [.ref t4]) := upd_same
      have neel := hd3.ne nel
      have b4 := b3.trans (SB.of (d := d) s4)
      have hd4 := hd3.same s4
      replace rl := rl.same s4
      replace et4 := s4 _ _ et4
      generalize upd H3 el (.lst [.ref t4]) = H4 at *
      have rel : RLAt H4 el [⟨("" : Str), ("wait" : Str), .non⟩] := RLAt.lit (as := [t4]) (.cons (show H4 t4 = some (.tup (Row.vs ⟨("" : Str), ("wait" : Str), .non⟩)) from et4) .nil) eel
      obtain ⟨xsl, xl, lxl⟩ := rl.lst
      obtain ⟨xsel, xel, lxel⟩ := rel.lst
      have szp2 : xsl.length + xsel.length ≤ sizeLine := sz (by rw [lxl, lxel]; first | (simp only [List.length_append, List.length_cons, List.length_nil]; omega) | omega)
      refine ⟨l, el, _, _, rfl, rfl, xl, xel, szp2, fun p2 np2 => ?_⟩
      have rp2 := RLAt.cat rl rel xl xel (same_new (o := .lst (xsl ++ xsel)) np2) upd_same
      have nep2 := hd4.ne np2
      have s5 := same_new (o := .lst (xsl ++ xsel)) np2
      have b5 := b4.trans (SB.of (d := d) s5)
      have hd5 := hd4.same s5
      have nop2 := b4.nn hd4 np2
      replace rl := rl.same s5
      replace rel := rel.same s5
      generalize upd H4 p2 (.lst (xsl ++ xsel)) = H5 at *
      refine q _ p2 _ b5 hd5 nop2 rp2 (by simp only [List.length_append, List.length_cons, List.length_nil]; omega) (Blk.plain (fun r hr => ?_))
      simp only [List.mem_append, List.mem_cons, List.not_mem_nil, or_false] at hr
      rcases hr with z | z
      · exact pl r z
      · subst z; exact pl_wait
end
end B65

end

section
set_option Elab.async false
set_option linter.all false
set_option maxRecDepth 100000
set_option maxHeartbeats 1000000
namespace B65
open PySem PySem.Spec PyProof.Rows L2
section
variable {P : Program} {w : World} {K : PySem.W.Frag} {mg : Str → Option Value} {base : Heap}
structure DrawnOk (rs : List Row) : Prop where
  l120 : rs.length ≤ 120
  deeds : ∀ r ∈ rs, dm deedsL r.deed = true
  g : ∃ g, 0 < g ∧ g ≤ rs.length ∧ (∀ n r, rs[n]? = some r → RowOk rs g n r) ∧ (∀ i r, i < g → rs[i]? = some r → r.deed ≠ ("data" : Str)) ∧ ∃ r, rs[g - 1]? = some r ∧ r.deed = ("go" : Str)
theorem Blk.drawn {rs : List Row} {r9 : Row} (h : Blk (rs ++ [r9])) (h9 : r9.deed = ("go" : Str)) (hl : rs.length + 1 ≤ 120) : DrawnOk (rs ++ [r9]) := by
  have hlen : (rs ++ [r9]).length = rs.length + 1 := by rw [List.length_append]; rfl
  refine ⟨by omega, fun r hr => (h r hr).1.2, (rs ++ [r9]).length, by omega, Nat.le_refl _, fun n r e => ⟨fun h1 h2 => ?_, fun z => ?_, fun z => ?_⟩, fun i r _ e => (h r (List.mem_of_getElem? e)).1.1, r9, by rw [hlen]; simp, h9⟩
  · have hn := (List.getElem?_eq_some_iff.mp e).1
    by_cases z : n = rs.length
    · subst z
      have e9 : (rs ++ [r9])[rs.length]? = some r9 := by simp
      rw [e9] at e
      cases e
      exact absurd h9 h2
    · omega
  · obtain ⟨m, e1, e2⟩ := (h r (List.mem_of_getElem? e)).2 (z.elim .inl (fun z => .inr (.inl z)))
    exact ⟨m, e1, e2, mark_lt e2⟩
  · obtain ⟨m, e1, e2⟩ := (h r (List.mem_of_getElem? e)).2 (.inr (.inr z))
    exact ⟨m, e1, e2⟩
def sp_law_running (K : PySem.W.Frag) : Sp := fun vs H Q _ => ∃ (d : Addr) (mo : Nat), vs = [.ref d, .int (mo : Int)] ∧ DeckAt H d ∧ mo ≤ 5 ∧ ∀ H' p rs, SB d H H' → DeckAt H' d → H p = none → ProgAt H' p rs → DrawnOk rs → Q (.ref p) H'
theorem sc__law_running : FnScope ["_law_deck_here", "_law_most_here", "_law_rows", "_law_k"] ["_law_deck_here", "_law_most_here"] (defScope (topS 76)) := ⟨rfl, rfl, rfl, by decide +kernel, rfl, by decide +kernel, by decide +kernel⟩
theorem ok__law_running (T : Txt K mg) : Ok P w K mg base 5 "_law_running" ["_law_deck_here", "_law_most_here"] (sp_law_running K) := by
  obtain ⟨fd, F⟩ := T.d__law_running
  obtain ⟨fd_lnext, G_lnext, kp_lnext, b_lnext⟩ := ok__law_next (P := P) (w := w) (base := base) T
  obtain ⟨fd_lblock, G_lblock, kp_lblock, b_lblock⟩ := ok__law_block (P := P) (w := w) (base := base) T
  obtain ⟨fd_lname, G_lname, kp_lname, b_lname⟩ := ok__law_name (P := P) (w := w) (base := base) T
  refine ⟨fd, F.ok sc__law_running (fun vs H Q E h => ?_) (fun cdv A outer s H vs Q E hr h => ?_), F.kp, F.bindsN fun _ _ _ _ _ _ us hl => match us, hl with | [_, _], _ => rfl⟩
  · obtain ⟨d, mo, rfl, _⟩ := h
    rfl
  · obtain ⟨d, mo, rfl, hd, hmo, q⟩ := h
    have hu := hu_of hr
    refine ⟨_, PSs.nox (pss_cons (ps_set (i := 2) sc__law_running.nd rfl (by first | exact Or.inl rfl | exact Or.inr rfl) (pe_lst (pa_cons (pe_tup (pa_cons pe_str (pa_cons pe_str (pa_cons pe_non pa_nil)))) pa_nil)))
      (pss_cons (ps_for PassesOwn.never rfl (pi_range1 (by rfl) T.z_range (pa_cons (pe_op op_add pe_int (pe_op op_mod (pe_call G_lnext (hr.mono (by decide)) (by rfl) T.g__law_next kp_lnext b_lnext .nil pass0 (pa_cons (pv 0) pa_nil)) pe_int)) pa_nil)) (pg_name (i := 3) sc__law_running.nd rfl (by first | exact Or.inl rfl | exact Or.inr rfl))
      (pss_one (ps_set (i := 2) sc__law_running.nd rfl (by first | exact Or.inl rfl | exact Or.inr rfl) (pe_op op_cat (pv 2) (pe_call G_lblock hr (by rfl) T.g__law_block kp_lblock b_lblock .nil pass0 (pa_cons (pv 0) (pa_cons (pe_call G_lname (hr.mono (by decide)) (by rfl) T.g__law_name kp_lname b_lname .nil pass0 (pa_cons (pv 3) pa_nil)) (pa_cons (pe_op op_mod (pe_call G_lnext (hr.mono (by decide)) (by rfl) T.g__law_next kp_lnext b_lnext .nil pass0 (pa_cons (pv 0) pa_nil)) pe_int) (pa_cons (pv 1) pa_nil)))))))))
      (pss_cons (ps_set (i := 2) sc__law_running.nd rfl (by first | exact Or.inl rfl | exact Or.inr rfl) (pe_op op_cat (pv 2) (pe_lst (pa_cons (pe_tup (pa_cons pe_str (pa_cons pe_str (pa_cons (pe_op op_mod (pe_call G_lnext (hr.mono (by decide)) (by rfl) T.g__law_next kp_lnext b_lnext .nil pass0 (pa_cons (pv 0) pa_nil)) pe_int) pa_nil)))) (pa_cons (pe_tup (pa_cons pe_str (pa_cons pe_str (pa_cons pe_int pa_nil)))) (pa_cons (pe_tup (pa_cons pe_str (pa_cons pe_str (pa_cons pe_non pa_nil)))) (pa_cons (pe_tup (pa_cons pe_str (pa_cons pe_str (pa_cons pe_str pa_nil)))) pa_nil)))))))
      (pss_one (ps_ret (pe_callTy call_tuple_of (by rfl) T.z_tuple (by decide +kernel) (pa_cons (pv 2) pa_nil))))))), ?_⟩
    have hd0 := hd
    have b0 := SB.refl d H
    refine ⟨by show 3 ≤ sizeLine; decide, fun t0 nt0 => ?_⟩
    have s1 := same_new (o := .tup [.str ("top" : Str), .str ("rest" : Str), .non]) nt0
    have et0 : upd H t0 (.tup [.str ("top" : Str), .str ("rest" : Str), .non]) t0 = some (.tup [.str ("top" : Str), .str ("rest" : Str), .non]) := upd_same
    have net0 := hd0.ne nt0
    have b1 := b0.trans (SB.of (d := d) s1)
    have hd1 := hd0.same s1
    generalize upd H t0 (.tup [.str ("top" : Str), .str ("rest" : Str), .non]) = H1 at *
    refine ⟨by show 1 ≤ sizeLine; decide, fun l0 nl0 => ?_⟩
    have s2 := same_new (o := .lst [.ref t0]) nl0
    have el0 : upd H1 l0 (.lst [.ref t0]) l0 = some (.lst [.ref t0]) := upd_same
    have nel0 := hd1.ne nl0
    have b2 := b1.trans (SB.of (d := d) s2)
    have hd2 := hd1.same s2
    replace et0 := s2 _ _ et0
    generalize upd H1 l0 (.lst [.ref t0]) = H2 at *
    have rl0 : RLAt H2 l0 [⟨("top" : Str), ("rest" : Str), .non⟩] := RLAt.lit (as := [t0]) (.cons (show H2 t0 = some (.tup (Row.vs ⟨("top" : Str), ("rest" : Str), .non⟩)) from et0) .nil) el0
    refine ⟨_, rfl, d, rfl, hd2, fun H3 x0 s3 hd3 => ?_⟩
    have b3 := b2.trans s3
    replace rl0 := rl0.sb s3 hd2 nel0
    refine ⟨_, _, rfl, rfl, (by show (0 : Int) < 4; decide), _, _, rfl, rfl, _, rfl, by omega, by omega, for_it walk_rng (fun i σ H' => ∃ (l : Addr) (rs : List Row) (x3 : Option V), σ = [some (.ref d), some (.int (mo : Int)), some (.ref l), x3] ∧ SB d H H' ∧ DeckAt H' d ∧ l ≠ d ∧ RLAt H' l rs ∧ rs.length ≤ 1 + 7 * i ∧ Blk rs ∧ ("top" : Str) ∈ marks rs)
      ⟨l0, _, none, rfl, b3, hd3, nel0, rl0, Nat.le_refl _, Blk.plain (plain_row pl_rest), by simp [marks]⟩ (fun _ _ _ _ _ => trivial) ?_ ?_⟩
    · rintro i xv σ H9 H90 hi ⟨l, rs, x3, rfl, b90, hd90, nel, rl, len, blk, top⟩ ⟨rfl, rfl⟩
      have hi4 : i < 4 := by have h1 := Int.emod_lt_of_pos x0 (show (0 : Int) < 4 by decide); omega
      refine ⟨_, rfl, _, rfl, _, rfl, i, rfl, _, rfl, d, rfl, hd90, fun H91 x1 s91 hd91 => ?_⟩
      have b91 := b90.trans s91
      replace rl := rl.sb s91 hd90 nel
      obtain ⟨j, j1, j2⟩ := mod_lt_len (x := x1) (n := 4) (by decide)
      refine ⟨_, _, rfl, rfl, (by show (0 : Int) < 4; decide), _, rfl, d, nmOf i, j, mo, congrArg (fun z => [V.ref d, V.str (nmOf i), V.int z, V.int (mo : Int)]) j1, hd91, hmo, fun H92 l2 rs2 s92 hd92 nl2 rl2 len2 blk2 => ?_⟩
      have nel2 := hd91.ne nl2
      have b92 := b91.trans s92
      replace rl := rl.sb s92 hd91 nel
      obtain ⟨xsl, xl, lxl⟩ := rl.lst
      obtain ⟨xsl2, xl2, lxl2⟩ := rl2.lst
      have szp1 : xsl.length + xsl2.length ≤ sizeLine := sz (by rw [lxl, lxl2]; first | (simp only [List.length_append, List.length_cons, List.length_nil]; omega) | omega)
      refine ⟨l, l2, _, _, rfl, rfl, xl, xl2, szp1, fun p1 np1 => ?_⟩
      have rp1 := RLAt.cat rl rl2 xl xl2 (same_new (o := .lst (xsl ++ xsl2)) np1) upd_same
      have nep1 := hd92.ne np1
      have s93 := same_new (o := .lst (xsl ++ xsl2)) np1
      have b93 := b92.trans (SB.of (d := d) s93)
      have hd93 := hd92.same s93
      have nop1 := b92.nn hd92 np1
      replace rl := rl.same s93
      replace rl2 := rl2.same s93
      generalize upd H92 p1 (.lst (xsl ++ xsl2)) = H93 at *
      exact ⟨p1, _, _, rfl, b93, hd93, nep1, rp1, by rw [List.length_append]; omega, blk.app blk2, by rw [show marks (rs ++ rs2) = marks rs ++ marks rs2 from List.map_append ..]; exact List.mem_append.mpr (.inl top)⟩
    · rintro σ H90 ⟨l, rs, x3, rfl, b90, hd90, nel, rl, len, blk, top⟩
      have hi4 := Int.emod_lt_of_pos x0 (show (0 : Int) < 4 by decide)
      refine ⟨_, rfl, _, rfl, d, rfl, hd90, fun H91 x1 s91 hd91 => ?_⟩
      have b91 := b90.trans s91
      replace rl := rl.sb s91 hd90 nel
      refine ⟨_, _, rfl, rfl, (by show (0 : Int) < 256; decide), ?_⟩
      refine ⟨by show 3 ≤ sizeLine; decide, fun t1 nt1 => ?_⟩
      have s92 := same_new (o := .tup [.str ("" : Str), .str ("set" : Str), .int (x1 % 256)]) nt1
      have et1 : upd H91 t1 (.tup [.str ("" : Str), .str ("set" : Str), .int (x1 % 256)]) t1 = some (.tup [.str ("" : Str), .str ("set" : Str), .int (x1 % 256)]) := upd_same
      have net1 := hd91.ne nt1
      have b92 := b91.trans (SB.of (d := d) s92)
      have hd92 := hd91.same s92
      replace rl := rl.same s92
      generalize upd H91 t1 (.tup [.str ("" : Str), .str ("set" : Str), .int (x1 % 256)]) = H92 at *
      refine ⟨by show 3 ≤ sizeLine; decide, fun t2 nt2 => ?_⟩
      have s93 := same_new (o := .tup [.str ("" : Str), .str ("door" : Str), .int 0]) nt2
      have et2 : upd H92 t2 (.tup [.str ("" : Str), .str ("door" : Str), .int 0]) t2 = some (.tup [.str ("" : Str), .str ("door" : Str), .int 0]) := upd_same
      have net2 := hd92.ne nt2
      have b93 := b92.trans (SB.of (d := d) s93)
      have hd93 := hd92.same s93
      replace rl := rl.same s93
      replace et1 := s93 _ _ et1
      generalize upd H92 t2 (.tup [.str ("" : Str), .str ("door" : Str), .int 0]) = H93 at *
      refine ⟨by show 3 ≤ sizeLine; decide, fun t3 nt3 => ?_⟩
      have s94 := same_new (o := .tup [.str ("" : Str), .str ("wait" : Str), .non]) nt3
      have et3 : upd H93 t3 (.tup [.str ("" : Str), .str ("wait" : Str), .non]) t3 = some (.tup [.str ("" : Str), .str ("wait" : Str), .non]) := upd_same
      have net3 := hd93.ne nt3
      have b94 := b93.trans (SB.of (d := d) s94)
      have hd94 := hd93.same s94
      replace rl := rl.same s94
      replace et1 := s94 _ _ et1
      replace et2 := s94 _ _ et2
      generalize upd H93 t3 (.tup [.str ("" : Str), .str ("wait" : Str), .non]) = H94 at *
      refine ⟨by show 3 ≤ sizeLine; decide, fun t4 nt4 => ?_⟩
      have s95 := same_new (o := .tup [.str ("" : Str), .str ("go" : Str), .str ("top" : Str)]) nt4
      have et4 : upd H94 t4 (.tup [.str ("" : Str), .str ("go" : Str), .str ("top" : Str)]) t4 = some (.tup [.str ("" : Str), .str ("go" : Str), .str ("top" : Str)]) := upd_same
      have net4 := hd94.ne nt4
      have b95 := b94.trans (SB.of (d := d) s95)
      have hd95 := hd94.same s95
      replace rl := rl.same s95
      replace et1 := s95 _ _ et1
      replace et2 := s95 _ _ et2
      replace et3 := s95 _ _ et3
      generalize upd H94 t4 (.tup [.str ("" : Str), .str ("go" : Str), .str ("top" : Str)]) = H95 at *
      refine ⟨by show 4 ≤ sizeLine; decide, fun el nel => ?_⟩
      have s96 := same_new (o := .lst [.ref t1, .ref t2, .ref t3, .ref t4]) nel
      have eel : upd H95 el (.lst [.ref t1, .ref t2, .ref t3, .ref t4]) el = some (.lst [.ref t1, .ref t2, .ref t3, .ref t4]) := upd_same
      have neel := hd95.ne nel
      have b96 := b95.trans (SB.of (d := d) s96)
      have hd96 := hd95.same s96
      replace rl := rl.same s96
      replace et1 := s96 _ _ et1
      replace et2 := s96 _ _ et2
      replace et3 := s96 _ _ et3
      replace et4 := s96 _ _ et4
      generalize upd H95 el (.lst [.ref t1, .ref t2, .ref t3, .ref t4]) = H96 at *
      have rel : RLAt H96 el [⟨("" : Str), ("set" : Str), .int (x1 % 256)⟩, ⟨("" : Str), ("door" : Str), .int 0⟩, ⟨("" : Str), ("wait" : Str), .non⟩, ⟨("" : Str), ("go" : Str), .str ("top" : Str)⟩] := RLAt.lit (as := [t1, t2, t3, t4]) (.cons (show H96 t1 = some (.tup (Row.vs ⟨("" : Str), ("set" : Str), .int (x1 % 256)⟩)) from et1) (.cons (show H96 t2 = some (.tup (Row.vs ⟨("" : Str), ("door" : Str), .int 0⟩)) from et2) (.cons (show H96 t3 = some (.tup (Row.vs ⟨("" : Str), ("wait" : Str), .non⟩)) from et3) (.cons (show H96 t4 = some (.tup (Row.vs ⟨("" : Str), ("go" : Str), .str ("top" : Str)⟩)) from et4) .nil)))) eel
      obtain ⟨xsl, xl, lxl⟩ := rl.lst
      obtain ⟨xsel, xel, lxel⟩ := rel.lst
      have szp1 : xsl.length + xsel.length ≤ sizeLine := sz (by rw [lxl, lxel]; first | (simp only [List.length_append, List.length_cons, List.length_nil]; omega) | omega)
      refine ⟨l, el, _, _, rfl, rfl, xl, xel, szp1, fun p1 np1 => ?_⟩
      have rp1 := RLAt.cat rl rel xl xel (same_new (o := .lst (xsl ++ xsel)) np1) upd_same
      have nep1 := hd96.ne np1
      have s97 := same_new (o := .lst (xsl ++ xsel)) np1
      have b97 := b96.trans (SB.of (d := d) s97)
      have hd97 := hd96.same s97
      have nop1 := b96.nn hd96 np1
      replace rl := rl.same s97
      replace rel := rel.same s97
      generalize upd H96 p1 (.lst (xsl ++ xsel)) = H97 at *
      obtain ⟨xsp, xp, lxp⟩ := rp1.lst
      refine ⟨_, rfl, p1, _, rfl, .inl ⟨sqL xp, fun p np => ?_⟩⟩
      refine q _ p _ (b97.trans (SB.of (same_new np))) (hd97.same (same_new np)) (b97.nn hd97 np) (rp1.prog xp (same_new np) upd_same) ?_
      have blA : Blk (rs ++ [⟨("" : Str), ("set" : Str), .int (x1 % 256)⟩, ⟨("" : Str), ("door" : Str), .int 0⟩, ⟨("" : Str), ("wait" : Str), .non⟩]) := blk.app (Blk.plain (fun r hr => ?_))
      · have blB := Blk.jump (r := ⟨("" : Str), ("go" : Str), .str ("top" : Str)⟩) (m := ("top" : Str)) (show GD ("go" : Str) by unfold GD; decide +kernel) rfl (by simp only [marks, List.map_append] at top ⊢; exact List.mem_append.mpr (.inl (List.mem_append.mpr (.inl top)))) blA
        have fin := blB.drawn rfl (by rw [List.length_append]; show rs.length + 3 + 1 ≤ 120; omega)
        rw [List.append_assoc] at fin
        exact fin
      · simp only [List.mem_cons, List.not_mem_nil, or_false] at hr
        rcases hr with z | z | z
        · subst z; exact pl_set
        · subst z; exact pl_door
        · subst z; exact pl_wait
end
end B65

end

section
set_option Elab.async false
set_option linter.all false
set_option maxRecDepth 100000
set_option maxHeartbeats 1000000
namespace B65
open PySem PySem.Spec PyProof.Rows L2
section
variable {P : Program} {w : World} {K : PySem.W.Frag} {mg : Str → Option Value} {base : Heap}
theorem dl_ok : ∀ (a : Nat) (dd : Str), deedsL[a]? = some dd → a < 31 ∧ ((dm sIF dd = true ∨ dd = ("go" : Str)) → 22 ≤ a ∧ a < 27) ∧ (dd = ("at" : Str) → a = 27) ∧ (a ≠ 30 → dd ≠ ("data" : Str)) ∧ dm deedsL dd = true ∧ (a = 22 → dd = ("go" : Str)) := by
  have h : (List.range 31).all (fun a => match deedsL[a]? with
    | some dd => (!(dm sIF dd || decide (dd = ("go" : Str))) || (decide (22 ≤ a) && decide (a < 27))) && (!decide (dd = ("at" : Str)) || decide (a = 27)) && (decide (a = 30) || !decide (dd = ("data" : Str))) && dm deedsL dd && (!decide (a = 22) || decide (dd = ("go" : Str)))
    | none => false) = true := by decide +kernel
  intro a dd e
  have ha : a < 31 := (List.getElem?_eq_some_iff.mp e).1
  have q := List.all_eq_true.mp h a (List.mem_range.mpr ha)
  rw [e] at q
  simp only [Bool.and_eq_true, Bool.or_eq_true, Bool.not_eq_true', Bool.or_eq_false_iff, decide_eq_true_eq, decide_eq_false_iff_not] at q
  obtain ⟨⟨⟨⟨q1, q2⟩, q3⟩, q4⟩, q5⟩ := q
  refine ⟨ha, fun z => ?_, fun z => q2.resolve_left (fun w => w z), fun z => q3.resolve_left z, q4, fun z => q5.resolve_left (fun w => w z)⟩
  rcases q1 with ⟨w1, w2⟩ | w
  · rcases z with z | z
    · rw [w1] at z; cases z
    · exact absurd z w2
  · exact w
/-- a row ahead of the tables -/
def RowI (many : Nat) (mk : List Nat) (ms ts : List Str) (n : Nat) (r : Row) : Prop := r.mark = (if n ∈ mk then nmOf n else ("" : Str)) ∧ ∃ a, a ≠ 30 ∧ deedsL[a]? = some r.deed ∧ (n + 1 = many → a = 22) ∧ ValOk a ms ts r.val
def RowD (bn : List Nat) (n : Nat) (r : Row) : Prop := r.mark = (if n ∈ bn then nmOf n else ("" : Str)) ∧ r.deed = ("data" : Str)
theorem ixOf_at {m : Str} {rs : List Row} {k : Nat} {r : Row} (e : rs[k]? = some r) (h : r.mark = m) : m ∈ marks rs ∧ ixOf m (marks rs) ≤ k := by
  have e2 : (marks rs)[k]? = some m := by unfold marks; rw [List.getElem?_map, e, ← h]; rfl
  exact ⟨List.mem_of_getElem? e2, ixOf_le e2⟩
theorem free_ok {rs : List Row} {many some9 : Nat} {mk bn : List Nat} (h1 : 1 ≤ many) (hl : rs.length = many + some9) (h35 : many + some9 ≤ 120) (hm : ∀ x ∈ mk, x < many) (hb : ∀ x ∈ bn, x < many + some9 ∧ many ≤ x)
    (hi : ∀ (n : Nat) (r : Row), n < many → rs[n]? = some r → RowI many mk (mk.map nmOf) (bn.map nmOf) n r) (hd : ∀ (n : Nat) (r : Row), many ≤ n → rs[n]? = some r → RowD bn n r) : DrawnOk rs := by
  have at_ : ∀ k, k < rs.length → ∃ r, rs[k]? = some r := fun k h => ⟨_, List.getElem?_eq_getElem h⟩
  refine ⟨by omega, fun r hr => ?_, many, by omega, by omega, fun n r e => ?_, fun i r h e => ?_, ?_⟩
  · obtain ⟨n, hn, e⟩ := List.mem_iff_getElem.mp hr
    have e2 : rs[n]? = some r := by rw [List.getElem?_eq_getElem hn, e]
    by_cases z : n < many
    · obtain ⟨_, a, _, a2, _⟩ := hi n r z e2
      exact (dl_ok a _ a2).2.2.2.2.1
    · rw [(hd n r (by omega) e2).2]
      decide +kernel
  · by_cases z : n < many
    · obtain ⟨m1, a, a1, a2, a3, a4⟩ := hi n r z e
      obtain ⟨d1, d2, d3, d4, d5, d6⟩ := dl_ok a _ a2
      refine ⟨fun _ hg => ?_, fun hj => ?_, fun hat => ?_⟩
      · by_cases w : n + 1 = many
        · exact absurd (d6 (a3 w)) hg
        · omega
      · obtain ⟨c1, c2⟩ := d2 hj
        obtain ⟨m, hm2, ev⟩ := a4.1 c1 c2
        obtain ⟨k, k1, k2⟩ := List.mem_map.mp hm2
        obtain ⟨rk, ek⟩ := at_ k (by have := hm k k1; omega)
        obtain ⟨p1, _⟩ := hi k rk (hm k k1) ek
        rw [if_pos k1, k2] at p1
        obtain ⟨i1, i2⟩ := ixOf_at ek p1
        exact ⟨m, ev, i1, by have := hm k k1; omega⟩
      · obtain ⟨m, hm2, ev⟩ := a4.2.1 (d3 hat)
        obtain ⟨k, k1, k2⟩ := List.mem_map.mp hm2
        obtain ⟨b1, b2⟩ := hb k k1
        obtain ⟨rk, ek⟩ := at_ k (by omega)
        obtain ⟨p1, _⟩ := hd k rk b2 ek
        rw [if_pos k1, k2] at p1
        exact ⟨m, ev, (ixOf_at ek p1).1⟩
    · have dd := (hd n r (by omega) e).2
      refine ⟨fun h => absurd dd h, fun h => ?_, fun h => ?_⟩
      · rw [dd] at h
        exact absurd h (by decide +kernel)
      · rw [dd] at h
        exact absurd h (by decide +kernel)
  · obtain ⟨_, a, a1, a2, _⟩ := hi i r h e
    exact (dl_ok a _ a2).2.2.2.1 a1
  · obtain ⟨r, e⟩ := at_ (many - 1) (by omega)
    obtain ⟨_, a, a1, a2, a3, _⟩ := hi (many - 1) r (by omega) e
    exact ⟨r, e, (dl_ok a _ a2).2.2.2.2.2 (a3 (by omega))⟩
theorem pick2 {k : Bool} {x y : Str} : atI [V.str x, V.str y] (if k = true then 1 else 0) = some (.str (if k = true then y else x)) := by cases k <;> rfl
def sp_law_free (K : PySem.W.Frag) : Sp := fun vs H Q _ => ∃ (d : Addr) (many some9 : Nat), vs = [.ref d, .int (many : Int), .int (some9 : Int)] ∧ DeckAt H d ∧ 1 ≤ many ∧ 1 ≤ some9 ∧ many + some9 ≤ 120 ∧ ∀ H' p rs, SB d H H' → DeckAt H' d → H p = none → ProgAt H' p rs → DrawnOk rs → Q (.ref p) H'
theorem sc__law_free : FnScope ["_law_deck_here", "_law_many", "_law_some", "_law_marked", "_law_borne", "_law_marks", "_law_tables", "_law_rows", "_law_k", "_law_at", "_law_value_here"] ["_law_deck_here", "_law_many", "_law_some"] (defScope (topS 73)) := ⟨rfl, rfl, rfl, by decide +kernel, rfl, by decide +kernel, by decide +kernel⟩
theorem ok__law_free (T : Txt K mg) : Ok P w K mg base 3 "_law_free" ["_law_deck_here", "_law_many", "_law_some"] (sp_law_free K) := by
  obtain ⟨fd, F⟩ := T.d__law_free
  obtain ⟨fd_lnext, G_lnext, kp_lnext, b_lnext⟩ := ok__law_next (P := P) (w := w) (base := base) T
  obtain ⟨fd_lname, G_lname, kp_lname, b_lname⟩ := ok__law_name (P := P) (w := w) (base := base) T
  obtain ⟨fd_lvalue, G_lvalue, kp_lvalue, b_lvalue⟩ := ok__law_value (P := P) (w := w) (base := base) T
  obtain ⟨fd_ldeeds, G_ldeeds, kp_ldeeds, b_ldeeds⟩ := ok__law_deeds (P := P) (w := w) (base := base) T
  refine ⟨fd, F.ok sc__law_free (fun vs H Q E h => ?_) (fun cdv A outer s H vs Q E hr h => ?_), F.kp, F.bindsN fun _ _ _ _ _ _ us hl => match us, hl with | [_, _, _], _ => rfl⟩
  · obtain ⟨d, many, some9, rfl, _⟩ := h
    rfl
  · obtain ⟨d, many, some9, rfl, hd, h1, h2, h3, q⟩ := h
    have hu := hu_of hr
    refine ⟨_, PSs.nox (pss_cons (ps_setLc (i := 3) (own := [("_law_k", 8)]) rfl sc__law_free.nd rfl rfl (sw_true rfl rfl rfl (by decide +kernel)) (pi_range1 (by rfl) T.z_range (pa_cons (pv 1) pa_nil)) (blkOk_by (N := ["_law_deck_here", "_law_many", "_law_some", "_law_marked", "_law_borne", "_law_marks", "_law_tables", "_law_rows", "_law_k", "_law_at", "_law_value_here"]) (sc := defScope (topS 73)) (by decide +kernel)) (fun _ _ _ _ _ => (pg_name (i := 8) sc__law_free.nd rfl (by first | exact Or.inl rfl | exact Or.inr rfl))) (fun _ _ _ _ _ => (pts_one (PW.pt (pw_or (pt_cmpR op_eq (pv 8) pe_int (nomark _)) (pw_or1 (pt_cmpR op_eq (pe_op op_mod (pe_call G_lnext (hr.mono (by decide)) (by rfl) T.g__law_next kp_lnext b_lnext .nil pass0 (pa_cons (pv 0) pa_nil)) pe_int) pe_int (nomark _))))))) (fun _ _ _ _ _ => (pv 8)))
      (pss_cons (ps_setLc (i := 4) (own := [("_law_k", 8)]) rfl sc__law_free.nd rfl rfl (sw_true rfl rfl rfl (by decide +kernel)) (pi_range1 (by rfl) T.z_range (pa_cons (pv 2) pa_nil)) (blkOk_by (N := ["_law_deck_here", "_law_many", "_law_some", "_law_marked", "_law_borne", "_law_marks", "_law_tables", "_law_rows", "_law_k", "_law_at", "_law_value_here"]) (sc := defScope (topS 73)) (by decide +kernel)) (fun _ _ _ _ _ => (pg_name (i := 8) sc__law_free.nd rfl (by first | exact Or.inl rfl | exact Or.inr rfl))) (fun _ _ _ _ _ => (pts_one (PW.pt (pw_or (pt_cmpR op_eq (pv 8) pe_int (nomark _)) (pw_or1 (pt_cmpR op_eq (pe_op op_mod (pe_call G_lnext (hr.mono (by decide)) (by rfl) T.g__law_next kp_lnext b_lnext .nil pass0 (pa_cons (pv 0) pa_nil)) pe_int) pe_int (nomark _))))))) (fun _ _ _ _ _ => (pe_op op_add (pv 1) (pv 8))))
      (pss_cons (ps_setLc (i := 5) (own := [("_law_k", 8)]) rfl sc__law_free.nd rfl rfl (sw_true rfl rfl rfl (by decide +kernel)) (pi_list (pv 3)) (blkOk_by (N := ["_law_deck_here", "_law_many", "_law_some", "_law_marked", "_law_borne", "_law_marks", "_law_tables", "_law_rows", "_law_k", "_law_at", "_law_value_here"]) (sc := defScope (topS 73)) (by decide +kernel)) (fun _ _ _ _ _ => (pg_name (i := 8) sc__law_free.nd rfl (by first | exact Or.inl rfl | exact Or.inr rfl))) (fun _ _ _ _ _ => pts_nil) (fun _ _ _ _ _ => (pe_call G_lname (hr.mono (by decide)) (by rfl) T.g__law_name kp_lname b_lname .nil pass0 (pa_cons (pv 8) pa_nil))))
      (pss_cons (ps_setLc (i := 6) (own := [("_law_k", 8)]) rfl sc__law_free.nd rfl rfl (sw_true rfl rfl rfl (by decide +kernel)) (pi_list (pv 4)) (blkOk_by (N := ["_law_deck_here", "_law_many", "_law_some", "_law_marked", "_law_borne", "_law_marks", "_law_tables", "_law_rows", "_law_k", "_law_at", "_law_value_here"]) (sc := defScope (topS 73)) (by decide +kernel)) (fun _ _ _ _ _ => (pg_name (i := 8) sc__law_free.nd rfl (by first | exact Or.inl rfl | exact Or.inr rfl))) (fun _ _ _ _ _ => pts_nil) (fun _ _ _ _ _ => (pe_call G_lname (hr.mono (by decide)) (by rfl) T.g__law_name kp_lname b_lname .nil pass0 (pa_cons (pv 8) pa_nil))))
      (pss_cons (ps_set (i := 7) sc__law_free.nd rfl (by first | exact Or.inl rfl | exact Or.inr rfl) (pe_lst pa_nil))
      (pss_cons (ps_for PassesOwn.never rfl (pi_range1 (by rfl) T.z_range (pa_cons (pv 1) pa_nil)) (pg_name (i := 8) sc__law_free.nd rfl (by first | exact Or.inl rfl | exact Or.inr rfl))
      (pss_cons (ps_set (i := 9) sc__law_free.nd rfl (by first | exact Or.inl rfl | exact Or.inr rfl) (pe_op op_mod (pe_call G_lnext (hr.mono (by decide)) (by rfl) T.g__law_next kp_lnext b_lnext .nil pass0 (pa_cons (pv 0) pa_nil)) pe_int))
      (Evl.pss_cut (ps_if (pt_cmpR op_eq (pv 8) (pe_op op_sub (pv 1) pe_int) (nomark _))
      (pss_one (ps_set (i := 9) sc__law_free.nd rfl (by first | exact Or.inl rfl | exact Or.inr rfl) pe_int))
      pss_nil)
      (Evl.pss_cut (ps_if (PW.pt (pw_and (pt_cmpR op_eq (pv 9) pe_int (nomark _)) (pw_and1 (pt_cmpR op_eq (pv 2) pe_int (nomark _)))))
      (pss_one (ps_set (i := 9) sc__law_free.nd rfl (by first | exact Or.inl rfl | exact Or.inr rfl) pe_int))
      pss_nil)
      (pss_cons (ps_set (i := 10) sc__law_free.nd rfl (by first | exact Or.inl rfl | exact Or.inr rfl) (pe_call G_lvalue hr (by rfl) T.g__law_value kp_lvalue b_lvalue .nil pass0 (pa_cons (pv 0) (pa_cons (pv 9) (pa_cons (pv 5) (pa_cons (pv 6) pa_nil))))))
      (pss_one (ps_expr (pe_bm PySem.F.plainAttrs_list PySem.F.slot_list_append PySem.F.type_list_append mt_append (pv 7) (pa_cons (pe_tup (pa_cons (pe_ix ix_list (pe_lst (pa_cons pe_str (pa_cons (pe_call G_lname (hr.mono (by decide)) (by rfl) T.g__law_name kp_lname b_lname .nil pass0 (pa_cons (pv 8) pa_nil)) pa_nil))) (pe_callTy call_int1 (by rfl) T.z_int (by decide +kernel) (pa_cons (pe_cmpR op_in_seq (pv 8) (pv 3) (by rfl)) pa_nil)) (fun _ _ => rfl)) (pa_cons (pe_ix ix_list (pe_call0 G_ldeeds (hr.mono (by decide)) (by rfl) T.g__law_deeds kp_ldeeds b_ldeeds .nil pass0) (pv 9) (fun _ _ => rfl)) (pa_cons (pv 10) pa_nil)))) pa_nil)))))))))
      (pss_cons (ps_for PassesOwn.never rfl (pi_range1 (by rfl) T.z_range (pa_cons (pv 2) pa_nil)) (pg_name (i := 8) sc__law_free.nd rfl (by first | exact Or.inl rfl | exact Or.inr rfl))
      (pss_one (ps_expr (pe_bm PySem.F.plainAttrs_list PySem.F.slot_list_append PySem.F.type_list_append mt_append (pv 7) (pa_cons (pe_tup (pa_cons (pe_ix ix_list (pe_lst (pa_cons pe_str (pa_cons (pe_call G_lname (hr.mono (by decide)) (by rfl) T.g__law_name kp_lname b_lname .nil pass0 (pa_cons (pe_op op_add (pv 1) (pv 8)) pa_nil)) pa_nil))) (pe_callTy call_int1 (by rfl) T.z_int (by decide +kernel) (pa_cons (pe_cmpR op_in_seq (pe_op op_add (pv 1) (pv 8)) (pv 4) (by rfl)) pa_nil)) (fun _ _ => rfl)) (pa_cons pe_str (pa_cons (pe_op op_mod (pe_call G_lnext (hr.mono (by decide)) (by rfl) T.g__law_next kp_lnext b_lnext .nil pass0 (pa_cons (pv 0) pa_nil)) pe_int) pa_nil)))) pa_nil)))))
      (pss_one (ps_ret (pe_callTy call_tuple_of (by rfl) T.z_tuple (by decide +kernel) (pa_cons (pv 7) pa_nil))))))))))), ?_⟩
    refine ⟨_, rfl, _, rfl, by omega, by omega, fun D nD => ?_⟩
    have neD := hd.ne nD
    have hdD := hd.same (same_new (o := .lst []) nD)
    refine lc_st walk_rng (fun i acc H' => SB d H H' ∧ DeckAt H' d ∧ ∃ ms : List Nat, acc = nV (ms.map fun x => x) ∧ ms.length ≤ i ∧ (∀ x ∈ ms, x < i) ∧ (0 < i → 0 ∈ ms)) ⟨SB.of (same_new nD), hdD, [], rfl, Nat.le_refl _, (fun x hx => by cases hx), fun h => absurd h (Nat.lt_irrefl _)⟩
      (fun i acc _ _ H' _ ⟨s, e, r⟩ => ⟨sb_mut s nD, e.up2 neD, r⟩) (fun _ _ _ _ _ => trivial) (fun i acc H' hi ⟨s, _, ms, e, l, _⟩ => by rw [e, nV_len, List.length_map]; exact szl (by omega)) (fun i xv acc H2 H3 hi eD ⟨s, hd2, ms, e, l, lt, z0⟩ ⟨eH, ex⟩ Qy Qn ky kn => ?_) (fun acc H1 eD ⟨b1, hd1, mk, e, lmk, ltmk, zmk⟩ => ?_)
    · subst eH ex
      have fin : ∀ H', SB d H H' → DeckAt H' d → H' D = some (.lst acc) → Qy (.int ((i : Nat) : Int)) H' := fun H' s' hd' e' => ky _ _ e' ⟨s', hd', ms ++ [i], (by rw [e, List.map_append, nV_app]; rfl), (by rw [List.length_append]; exact Nat.succ_le_succ l), (fun x hx => by
          rcases List.mem_append.mp hx with z | z
          · have := lt x z; omega
          · rw [List.mem_singleton.mp z]; omega), fun _ => by
          by_cases z : i = 0
          · rw [z]; simp
          · exact List.mem_append.mpr (.inl (z0 (by omega)))⟩
      refine ⟨rfl, _, rfl, rfl, _, rfl, ?_⟩
      by_cases z : i = 0
      · subst z
        exact ⟨_, rfl, fin _ s hd2 eD⟩
      · rw [show decide (V.int (i : Int) = V.int 0) = false from eqk (k := 0) (decide_eq_false z)]
        refine ⟨_, rfl, d, rfl, hd2, fun H4 x s4 hd4 => ⟨_, _, rfl, rfl, (by show (0 : Int) < 3; decide), rfl, _, rfl, ite2 (fun _ => ⟨_, rfl, fin _ (s.trans s4) hd4 (s4.lst neD eD)⟩) (fun _ => kn _ (s4.lst neD eD) ⟨s.trans s4, hd4, ms, e, by omega, (fun x hx => by have := lt x hx; omega), fun _ => z0 (by omega)⟩)⟩⟩
    subst e
    rw [List.map_id'] at eD
    refine ⟨_, rfl, _, rfl, by omega, by omega, fun E nE => ?_⟩
    have neE := hd1.ne nE
    have hdE := hd1.same (same_new (o := .lst []) nE)
    refine lc_st walk_rng (fun i acc H' => SB d H1 H' ∧ DeckAt H' d ∧ ∃ ms : List Nat, acc = nV (ms.map fun x => many + x) ∧ ms.length ≤ i ∧ (∀ x ∈ ms, x < i) ∧ (0 < i → 0 ∈ ms)) ⟨SB.of (same_new nE), hdE, [], rfl, Nat.le_refl _, (fun x hx => by cases hx), fun h => absurd h (Nat.lt_irrefl _)⟩
      (fun i acc _ _ H' _ ⟨s, e, r⟩ => ⟨sb_mut s nE, e.up2 neE, r⟩) (fun _ _ _ _ _ => trivial) (fun i acc H' hi ⟨s, _, ms, e, l, _⟩ => by rw [e, nV_len, List.length_map]; exact szl (by omega)) (fun i xv acc H2 H3 hi eD ⟨s, hd2, ms, e, l, lt, z0⟩ ⟨eH, ex⟩ Qy Qn ky kn => ?_) (fun acc H5 eE ⟨b5, hd5, bn0, e, lbn0, ltbn0, zbn0⟩ => ?_)
    · subst eH ex
      have fin : ∀ H', SB d H1 H' → DeckAt H' d → H' E = some (.lst acc) → Qy (.int ((many + i : Nat) : Int)) H' := fun H' s' hd' e' => ky _ _ e' ⟨s', hd', ms ++ [i], (by rw [e, List.map_append, nV_app]; rfl), (by rw [List.length_append]; exact Nat.succ_le_succ l), (fun x hx => by
          rcases List.mem_append.mp hx with z | z
          · have := lt x z; omega
          · rw [List.mem_singleton.mp z]; omega), fun _ => by
          by_cases z : i = 0
          · rw [z]; simp
          · exact List.mem_append.mpr (.inl (z0 (by omega)))⟩
      refine ⟨rfl, _, rfl, rfl, _, rfl, ?_⟩
      by_cases z : i = 0
      · subst z
        exact ⟨_, rfl, _, rfl, _, _, rfl, rfl, fin _ s hd2 eD⟩
      · rw [show decide (V.int (i : Int) = V.int 0) = false from eqk (k := 0) (decide_eq_false z)]
        refine ⟨_, rfl, d, rfl, hd2, fun H4 x s4 hd4 => ⟨_, _, rfl, rfl, (by show (0 : Int) < 3; decide), rfl, _, rfl, ite2 (fun _ => ⟨_, rfl, _, rfl, _, _, rfl, rfl, fin _ (s.trans s4) hd4 (s4.lst neE eD)⟩) (fun _ => kn _ (s4.lst neE eD) ⟨s.trans s4, hd4, ms, e, by omega, (fun x hx => by have := lt x hx; omega), fun _ => z0 (by omega)⟩)⟩⟩
    subst e
    have eD5 := b5.lst neD eD
    have b15 := b1.trans b5
    obtain ⟨bn, hbn⟩ : ∃ bn : List Nat, bn = bn0.map fun x => many + x := ⟨_, rfl⟩
    rw [← hbn] at eE
    have bnr : ∀ x ∈ bn, x < many + some9 ∧ many ≤ x := fun x hx => by
      rw [hbn] at hx
      obtain ⟨y, y1, y2⟩ := List.mem_map.mp hx
      have := ltbn0 y y1
      omega
    have bnl : bn.length ≤ some9 := by rw [hbn, List.length_map]; omega
    have bn1 : 0 < bn.length := by
      have := zbn0 (by omega)
      rw [hbn, List.length_map]
      exact List.length_pos_of_mem this
    have mkr : ∀ x ∈ mk, x < many := fun x hx => by have := ltmk x hx; omega
    have mkl : mk.length ≤ many := by omega
    have mk1 : 0 < mk.length := List.length_pos_of_mem (zmk (by omega))
    refine ⟨_, rfl, D, rfl, ⟨_, sqL eD5⟩, fun ML nML => ?_⟩
    have neML := hd5.ne nML
    refine lc_st (walk_list (K := K) (a := D) (xs := nV mk)) (fun i acc H' => Same H5 H' ∧ acc = ((mk.take i).map nmOf).map V.str) ⟨same_new nML, rfl⟩ (fun i acc _ _ H' _ ⟨s, e⟩ => ⟨same_mut s nML, e⟩) (fun i acc H' _ ⟨s, e⟩ => sqL (s _ _ eD5)) (fun i acc H' hi ⟨s, e⟩ => by rw [e, List.length_map, List.length_map, List.length_take]; exact szl (by omega)) (fun i xv acc H2 H3 hi eD ⟨s, e⟩ ⟨eH, exv⟩ Qy Qn ky kn => ?_) (fun acc H6 eML ⟨sML, e⟩ => ?_)
    · subst eH
      obtain ⟨x, ex, rfl⟩ := nV_get exv
      refine ⟨rfl, _, rfl, x, rfl, ky _ _ eD ⟨s, ?_⟩⟩
      rw [e, List.take_add_one, ex, List.map_append, List.map_append]
      rfl
    rw [e, nV_len, take_all] at eML
    clear e
    have hd6 := hd5.same sML
    have eD6 := sML _ _ eD5
    have eE6 := sML _ _ eE
    refine ⟨_, rfl, E, rfl, ⟨_, sqL eE6⟩, fun TL nTL => ?_⟩
    have neTL := hd6.ne nTL
    refine lc_st (walk_list (K := K) (a := E) (xs := nV bn)) (fun i acc H' => Same H6 H' ∧ acc = ((bn.take i).map nmOf).map V.str) ⟨same_new nTL, rfl⟩ (fun i acc _ _ H' _ ⟨s, e⟩ => ⟨same_mut s nTL, e⟩) (fun i acc H' _ ⟨s, e⟩ => sqL (s _ _ eE6)) (fun i acc H' hi ⟨s, e⟩ => by rw [e, List.length_map, List.length_map, List.length_take]; exact szl (by omega)) (fun i xv acc H2 H3 hi eD ⟨s, e⟩ ⟨eH, exv⟩ Qy Qn ky kn => ?_) (fun acc H7 eTL ⟨sTL, e⟩ => ?_)
    · subst eH
      obtain ⟨x, ex, rfl⟩ := nV_get exv
      refine ⟨rfl, _, rfl, x, rfl, ky _ _ eD ⟨s, ?_⟩⟩
      rw [e, List.take_add_one, ex, List.map_append, List.map_append]
      rfl
    rw [e, nV_len, take_all] at eTL
    clear e
    have hd7 := hd6.same sTL
    have eD7 := sTL _ _ eD6
    have eE7 := sTL _ _ eE6
    have eML7 := sTL _ _ eML
    have b7 := b15.trans (SB.of (d := d) (sML.trans sTL))
    refine ⟨Nat.zero_le _, fun l nl => ?_⟩
    have nel := hd7.ne nl
    have nl0 := b7.nn hd7 nl
    have s8 := same_new (o := .lst []) nl
    have el8 : upd H7 l (.lst []) l = some (.lst []) := upd_same
    have b8 := b7.trans (SB.of (d := d) s8)
    have hd8 := hd7.same s8
    have eD8 := s8 _ _ eD7
    have eE8 := s8 _ _ eE7
    have eML8 := s8 _ _ eML7
    have eTL8 := s8 _ _ eTL
    have lD := ne_of_none eD7 nl
    have lE := ne_of_none eE7 nl
    have lM := ne_of_none eML7 nl
    have lT := ne_of_none eTL nl
    generalize upd H7 l (.lst []) = H8 at *
    have mkp : 0 < (mk.map nmOf).length := by rw [List.length_map]; exact mk1
    have bnp : 0 < (bn.map nmOf).length := by rw [List.length_map]; exact bn1
    refine ⟨_, rfl, _, rfl, by omega, by omega, for_it walk_rng (fun i σ H' => ∃ (rs : List Row) (x8 x9 x10 : Option V), σ = [some (.ref d), some (.int (many : Int)), some (.int (some9 : Int)), some (.ref D), some (.ref E), some (.ref ML), some (.ref TL), some (.ref l), x8, x9, x10] ∧ SB d H H' ∧ DeckAt H' d ∧ H' D = some (.lst (nV mk)) ∧ H' E = some (.lst (nV bn)) ∧ H' ML = some (.lst ((mk.map nmOf).map V.str)) ∧ H' TL = some (.lst ((bn.map nmOf).map V.str)) ∧ RLAt H' l rs ∧ rs.length = i ∧ ∀ (n : Nat) (r : Row), rs[n]? = some r → RowI many mk (mk.map nmOf) (bn.map nmOf) n r)
      ⟨[], none, none, none, rfl, b8, hd8, eD8, eE8, eML8, eTL8, RLAt.nil el8, rfl, fun n r e => by simp at e⟩ (fun _ _ _ _ _ => trivial) ?_ ?_⟩
    · clear b8 hd8 eD8 eE8 eML8 eTL8 el8 s8
      rintro i xv σ H9 H0 hi ⟨rs, x8, x9, x10, rfl, b0, hd0, eD0, eE0, eM0, eT0, rl, len, hrow⟩ ⟨rfl, rfl⟩
      have hi2 : i < many := by omega
      refine ⟨_, rfl, d, rfl, hd0, fun H1 x s1 hd1 => ⟨_, _, rfl, rfl, (by show (0 : Int) < 30; decide), ?_⟩⟩
      replace b0 := b0.trans s1
      replace eD0 := s1.lst neD eD0
      replace eE0 := s1.lst neE eE0
      replace eM0 := s1.lst neML eM0
      replace eT0 := s1.lst neTL eT0
      replace rl := rl.sb s1 hd0 nel
      obtain ⟨j, j1, j2⟩ := mod_lt_len (x := x) (n := 30) (by decide)
      refine ⟨fun σ' H' => ∃ a : Nat, σ' = [some (.ref d), some (.int (many : Int)), some (.int (some9 : Int)), some (.ref D), some (.ref E), some (.ref ML), some (.ref TL), some (.ref l), some (.int (i : Int)), some (.int (a : Int)), x10] ∧ H' = H1 ∧ a < 30 ∧ (i + 1 = many → a = 22), ?_, ?_⟩
      · refine ⟨_, rfl, _, rfl, _, _, rfl, rfl, rfl, _, rfl, ite2 (fun z => ?_) (fun z => ?_)⟩
        · exact ⟨22, rfl, rfl, by decide, fun _ => rfl⟩
        · refine ⟨j, congrArg (fun v => [some (V.ref d), some (V.int (many : Int)), some (V.int (some9 : Int)), some (V.ref D), some (V.ref E), some (V.ref ML), some (V.ref TL), some (V.ref l), some (V.int (i : Int)), some (V.int v), x10]) j1, rfl, j2, fun w => absurd (decide_eq_true (show V.int (i : Int) = V.int ((many : Int) - 1) by rw [show (i : Int) = (many : Int) - 1 by omega])) z⟩
      rintro σ' H' ⟨a, rfl, rfl, ha, ha2⟩
      refine ⟨fun σ' H2 => σ' = [some (.ref d), some (.int (many : Int)), some (.int (some9 : Int)), some (.ref D), some (.ref E), some (.ref ML), some (.ref TL), some (.ref l), some (.int (i : Int)), some (.int (a : Int)), x10] ∧ H2 = H', ?_, ?_⟩
      · refine ⟨_, rfl, rfl, _, rfl, (fun rest => ite2 (fun _ => ⟨_, rfl, rfl, false, congrArg V.bl (eqk (k := 0) (decide_eq_false (by omega))), rest⟩) (fun _ => rest)) ?_⟩
        exact ⟨rfl, rfl⟩
      rintro σ' H2 ⟨rfl, rfl⟩
      obtain ⟨dd, ea⟩ : ∃ dd, deedsL[a]? = some dd := ⟨_, List.getElem?_eq_getElem (show a < deedsL.length from Nat.lt_of_lt_of_le ha (by decide))⟩
      refine ⟨_, rfl, _, rfl, _, rfl, _, rfl, d, a, ML, TL, mk.map nmOf, bn.map nmOf, rfl, hd1, by omega, eM0, eT0, neML, neTL, fun _ _ => mkp, fun _ => bnp, fun H3 v s3 hd3 vok => ?_⟩
      replace b0 := b0.trans s3
      replace eD0 := s3.lst neD eD0
      replace eE0 := s3.lst neE eE0
      replace eM0 := s3.lst neML eM0
      replace eT0 := s3.lst neTL eT0
      replace rl := rl.sb s3 hd1 nel
      obtain ⟨xs, ex, lx⟩ := rl.lst
      refine ⟨_, rfl, .inl ⟨rfl, _, sqL ex⟩, _, rfl, i, rfl, by show 2 ≤ sizeLine; decide, fun l2 nl2 => ?_⟩
      have t4 := same_new (o := .lst [.str ("" : Str), .str (nmOf i)]) nl2
      have e24 : upd H3 l2 (.lst [.str ("" : Str), .str (nmOf i)]) l2 = some (.lst [.str ("" : Str), .str (nmOf i)]) := upd_same
      generalize upd H3 l2 (.lst [.str ("" : Str), .str (nmOf i)]) = H4 at *
      refine ⟨_, rfl, _, rfl, D, _, rfl, .inl (sqL (t4 _ _ eD0)), rfl, by rw [nV_int]; exact flat_ints _, .inr ⟨_, rfl, l2, _, _, _, rfl, rfl, sqL e24, pick2, ?_⟩⟩
      refine ⟨rfl, fun H5 dl s5 n5 e5 => ?_⟩
      refine ⟨_, rfl, dl, _, _, _, rfl, rfl, sqL e5, strs_get ea, _, rfl, by show 3 ≤ sizeLine; decide, fun t nt => ?_⟩
      obtain ⟨mkv, hmkv⟩ : ∃ mkv : Str, mkv = (if (if false = true then !inV (V.int (i : Int)) (nV mk) else inV (V.int (i : Int)) (nV mk)) = true then nmOf i else ("" : Str)) := ⟨_, rfl⟩
      rw [← hmkv]
      have s6 := (t4.trans s5).trans (same_new (o := .tup [.str mkv, .str dd, v]) nt)
      have e6 : upd H5 t (.tup [.str mkv, .str dd, v]) t = some (.tup (Row.vs ⟨mkv, dd, v⟩)) := upd_same
      replace b0 := b0.trans (SB.of (d := d) s6)
      replace hd3 := hd3.same s6
      replace eD0 := s6 _ _ eD0
      replace eE0 := s6 _ _ eE0
      replace eM0 := s6 _ _ eM0
      replace eT0 := s6 _ _ eT0
      replace rl := rl.same s6
      generalize upd H5 t (.tup [.str mkv, .str dd, v]) = H6' at *
      obtain ⟨xs9, ex9, lx9, rn⟩ := rl.snoc e6
      refine ⟨l, _, _, rfl, rfl, ex9, szl (by omega), ?_⟩
      refine ⟨rs ++ [⟨mkv, dd, v⟩], _, _, _, rfl, sb_mut b0 nl0, hd3.up2 nel, upd_at eD0 lD, upd_at eE0 lE, upd_at eM0 lM, upd_at eT0 lT, rn, by rw [List.length_append, len]; rfl, fun n r e => ?_⟩
      rcases snoc_get e with z | ⟨z1, z2⟩
      · exact hrow n r z
      · subst z2
        rw [len] at z1
        subst z1
        refine ⟨?_, a, by omega, ea, ha2, vok⟩
        show mkv = _
        rw [hmkv]
        show (if inV (V.int (n : Int)) (nV mk) = true then _ else _) = _
        rw [in_nV]
        by_cases w : n ∈ mk
        · rw [if_pos w, if_pos (decide_eq_true w)]
        · rw [if_neg w, if_neg (by simp [w])]
    · clear b8 hd8 eD8 eE8 eML8 eTL8 el8 s8
      rintro σ H0 ⟨rs, x8, x9, x10, rfl, b0, hd0, eD0, eE0, eM0, eT0, rl, len, hrow⟩
      refine ⟨_, rfl, _, rfl, by omega, by omega, for_it walk_rng (fun i σ H' => ∃ (rs : List Row) (x8 : Option V), σ = [some (.ref d), some (.int (many : Int)), some (.int (some9 : Int)), some (.ref D), some (.ref E), some (.ref ML), some (.ref TL), some (.ref l), x8, x9, x10] ∧ SB d H H' ∧ DeckAt H' d ∧ H' E = some (.lst (nV bn)) ∧ RLAt H' l rs ∧ rs.length = many + i ∧ (∀ (n : Nat) (r : Row), n < many → rs[n]? = some r → RowI many mk (mk.map nmOf) (bn.map nmOf) n r) ∧ ∀ (n : Nat) (r : Row), many ≤ n → rs[n]? = some r → RowD bn n r)
        ⟨rs, x8, rfl, b0, hd0, eE0, rl, by omega, fun n r _ e => hrow n r e, fun n r h e => by have := (List.getElem?_eq_some_iff.mp e).1; omega⟩ (fun _ _ _ _ _ => trivial) ?_ ?_⟩
      · clear b0 hd0 eD0 eE0 eM0 eT0 rl len hrow
        rintro i xv σ H9 H1 hi ⟨rs, x8, rfl, b0, hd0, eE0, rl, len, hrow, hrowD⟩ ⟨rfl, rfl⟩
        obtain ⟨xs, ex, lx⟩ := rl.lst
        refine ⟨_, rfl, .inl ⟨rfl, _, sqL ex⟩, _, rfl, _, rfl, _, _, rfl, rfl, many + i, rfl, by show 2 ≤ sizeLine; decide, fun l2 nl2 => ?_⟩
        have t4 := same_new (o := .lst [.str ("" : Str), .str (nmOf (many + i))]) nl2
        have e24 : upd H1 l2 (.lst [.str ("" : Str), .str (nmOf (many + i))]) l2 = some (.lst [.str ("" : Str), .str (nmOf (many + i))]) := upd_same
        generalize upd H1 l2 (.lst [.str ("" : Str), .str (nmOf (many + i))]) = H4 at *
        refine ⟨_, rfl, _, rfl, _, _, rfl, rfl, _, rfl, E, _, rfl, .inl (sqL (t4 _ _ eE0)), rfl, by rw [nV_int]; exact flat_ints _, .inr ⟨_, rfl, l2, _, _, _, rfl, rfl, sqL e24, pick2, ?_⟩⟩
        replace b0 := b0.trans (SB.of (d := d) t4)
        replace hd0 := hd0.same t4
        replace eE0 := t4 _ _ eE0
        replace rl := rl.same t4
        refine ⟨_, rfl, d, rfl, hd0, fun H5 x s5 hd5' => ⟨_, _, rfl, rfl, (by show (0 : Int) < 256; decide), by show 3 ≤ sizeLine; decide, fun t nt => ?_⟩⟩
        replace b0 := b0.trans s5
        replace eE0 := s5.lst neE eE0
        replace rl := rl.sb s5 hd0 nel
        obtain ⟨mkv, hmkv⟩ : ∃ mkv : Str, mkv = (if (if false = true then !inV (V.int ((many : Int) + (i : Int))) (nV bn) else inV (V.int ((many : Int) + (i : Int))) (nV bn)) = true then nmOf (many + i) else ("" : Str)) := ⟨_, rfl⟩
        rw [← hmkv]
        have s6 := same_new (o := .tup [.str mkv, .str ("data" : Str), .int (x % 256)]) nt
        have e6 : upd H5 t (.tup [.str mkv, .str ("data" : Str), .int (x % 256)]) t = some (.tup (Row.vs ⟨mkv, "data", .int (x % 256)⟩)) := upd_same
        replace b0 := b0.trans (SB.of (d := d) s6)
        replace hd5' := hd5'.same s6
        replace eE0 := s6 _ _ eE0
        replace rl := rl.same s6
        generalize upd H5 t (.tup [.str mkv, .str ("data" : Str), .int (x % 256)]) = H6' at *
        obtain ⟨xs9, ex9, lx9, rn⟩ := rl.snoc e6
        refine ⟨l, _, _, rfl, rfl, ex9, szl (by omega), ?_⟩
        refine ⟨rs ++ [⟨mkv, "data", .int (x % 256)⟩], _, rfl, sb_mut b0 nl0, hd5'.up2 nel, upd_at eE0 lE, rn, by rw [List.length_append, len]; rfl, fun n r h e => ?_, fun n r h e => ?_⟩
        · rcases snoc_get e with z | ⟨z1, z2⟩
          · exact hrow n r h z
          · omega
        · rcases snoc_get e with z | ⟨z1, z2⟩
          · exact hrowD n r h z
          · subst z2
            rw [len] at z1
            subst z1
            refine ⟨?_, rfl⟩
            show mkv = _
            rw [hmkv]
            show (if inV (V.int ((many + i : Nat) : Int)) (nV bn) = true then _ else _) = _
            rw [in_nV]
            by_cases w : many + i ∈ bn
            · rw [if_pos w, if_pos (decide_eq_true w)]
            · rw [if_neg w, if_neg (by simp [w])]
      · clear b0 hd0 eD0 eE0 eM0 eT0 rl len hrow
        rintro σ H1 ⟨rs, x8, rfl, b0, hd0, eE0, rl, len, hrow, hrowD⟩
        obtain ⟨xs, ex, lx⟩ := rl.lst
        refine ⟨_, rfl, l, _, rfl, .inl ⟨sqL ex, fun p np => ?_⟩⟩
        exact q _ p rs (b0.trans (SB.of (same_new np))) (hd0.same (same_new np)) (b0.nn hd0 np) (rl.prog ex (same_new np) upd_same) (free_ok h1 (by omega) h3 mkr bnr hrow hrowD)
end
end B65

end

section
set_option Elab.async false
set_option linter.all false
set_option maxRecDepth 100000
set_option maxHeartbeats 1000000
namespace B65
open PySem PySem.Spec PyProof.Rows L2
section
variable {P : Program} {w : World} {K : PySem.W.Frag} {mg : Str → Option Value} {base : Heap}
def pla4 : List Str := ["rest", "idle", "toa", "up"]
theorem pla4_ok : ∀ w ∈ pla4, Plain w = true := by decide +kernel
/-- a row of a long program -/
def RowL (many n : Nat) (r : Row) : Prop := r.mark = nmOf n ∧ GD r.deed ∧ ((dm sIF r.deed = true ∨ r.deed = ("go" : Str) ∨ r.deed = ("at" : Str)) → ∃ j, j < many ∧ r.val = .str (nmOf j))
theorem long_ok {rs : List Row} {r9 : Row} {many : Nat} (hl : rs.length + 1 = many) (hm : many ≤ 120) (h : ∀ (n : Nat) (r : Row), (rs ++ [r9])[n]? = some r → RowL many n r) (h9 : r9.deed = ("go" : Str)) : DrawnOk (rs ++ [r9]) := by
  refine Blk.drawn (fun r hr => ?_) h9 (by omega)
  obtain ⟨n, hn, e⟩ := List.mem_iff_getElem.mp hr
  have e2 : (rs ++ [r9])[n]? = some r := by rw [List.getElem?_eq_getElem hn, e]
  obtain ⟨_, a, b⟩ := h n r e2
  refine ⟨a, fun z => ?_⟩
  obtain ⟨j, j1, j2⟩ := b z
  have hj : j < (rs ++ [r9]).length := by rw [List.length_append]; show j < rs.length + 1; omega
  have ej := List.getElem?_eq_getElem hj
  exact ⟨_, j2, (ixOf_at ej (h j _ ej).1).1⟩
def sp_law_long_flow (K : PySem.W.Frag) : Sp := fun vs H Q _ => ∃ d : Addr, vs = [.ref d] ∧ DeckAt H d ∧ ∀ H' p rs, SB d H H' → DeckAt H' d → H p = none → ProgAt H' p rs → DrawnOk rs → Q (.ref p) H'
theorem sc__law_long_flow : FnScope ["_law_deck_here", "_law_many", "_law_rows", "_law_k", "_law_cell", "_law_end_here"] ["_law_deck_here"] (defScope (topS 96)) := ⟨rfl, rfl, rfl, by decide +kernel, rfl, by decide +kernel, by decide +kernel⟩
theorem ok__law_long_flow (T : Txt K mg) : Ok P w K mg base 2 "_law_long_flow" ["_law_deck_here"] (sp_law_long_flow K) := by
  obtain ⟨fd, F⟩ := T.d__law_long_flow
  obtain ⟨fd_lnext, G_lnext, kp_lnext, b_lnext⟩ := ok__law_next (P := P) (w := w) (base := base) T
  obtain ⟨fd_lname, G_lname, kp_lname, b_lname⟩ := ok__law_name (P := P) (w := w) (base := base) T
  refine ⟨fd, F.ok sc__law_long_flow (fun vs H Q E h => ?_) (fun cdv A outer s H vs Q E hr h => ?_), F.kp, F.bindsN fun _ _ _ _ _ _ us hl => match us, hl with | [_], _ => rfl⟩
  · obtain ⟨d, rfl, _⟩ := h
    rfl
  · obtain ⟨d, rfl, hd, q⟩ := h
    have hu := hu_of hr
    refine ⟨_, PSs.nox (pss_cons (ps_set (i := 1) sc__law_long_flow.nd rfl (by first | exact Or.inl rfl | exact Or.inr rfl) (pe_op op_add pe_int (pe_op op_mod (pe_call G_lnext hr (by rfl) T.g__law_next kp_lnext b_lnext .nil pass0 (pa_cons (pv 0) pa_nil)) pe_int)))
      (pss_cons (ps_set (i := 2) sc__law_long_flow.nd rfl (by first | exact Or.inl rfl | exact Or.inr rfl) (pe_lst pa_nil))
      (pss_cons (ps_for PassesOwn.never rfl (pi_range1 (by rfl) T.z_range (pa_cons (pe_op op_sub (pv 1) pe_int) pa_nil)) (pg_name (i := 3) sc__law_long_flow.nd rfl (by first | exact Or.inl rfl | exact Or.inr rfl))
      (pss_cons (ps_set (i := 4) sc__law_long_flow.nd rfl (by first | exact Or.inl rfl | exact Or.inr rfl) (pe_call G_lnext hr (by rfl) T.g__law_next kp_lnext b_lnext .nil pass0 (pa_cons (pv 0) pa_nil)))
      (pss_one (ps_if (pt_cmpR op_eq (pe_op op_mod (pv 4) pe_int) pe_int (nomark _))
      (pss_cons (ps_set (i := 5) sc__law_long_flow.nd rfl (by first | exact Or.inl rfl | exact Or.inr rfl) (pe_call G_lname hr (by rfl) T.g__law_name kp_lname b_lname .nil pass0 (pa_cons (pe_op op_mod (pe_call G_lnext hr (by rfl) T.g__law_next kp_lnext b_lnext .nil pass0 (pa_cons (pv 0) pa_nil)) (pv 1)) pa_nil)))
      (pss_one (ps_expr (pe_bm PySem.F.plainAttrs_list PySem.F.slot_list_append PySem.F.type_list_append mt_append (pv 2) (pa_cons (pe_tup (pa_cons (pe_call G_lname hr (by rfl) T.g__law_name kp_lname b_lname .nil pass0 (pa_cons (pv 3) pa_nil)) (pa_cons (pe_ix ix_list (pe_lst (pa_cons pe_str (pa_cons pe_str (pa_cons pe_str (pa_cons pe_str pa_nil))))) (pe_op op_mod (pe_op op_fdiv (pv 4) pe_int) pe_int) (fun _ _ => rfl)) (pa_cons (pv 5) pa_nil)))) pa_nil)))))
      (pss_one (ps_expr (pe_bm PySem.F.plainAttrs_list PySem.F.slot_list_append PySem.F.type_list_append mt_append (pv 2) (pa_cons (pe_tup (pa_cons (pe_call G_lname hr (by rfl) T.g__law_name kp_lname b_lname .nil pass0 (pa_cons (pv 3) pa_nil)) (pa_cons (pe_ix ix_list (pe_lst (pa_cons pe_str (pa_cons pe_str (pa_cons pe_str (pa_cons pe_str pa_nil))))) (pe_op op_mod (pv 4) pe_int) (fun _ _ => rfl)) (pa_cons pe_non pa_nil)))) pa_nil))))))))
      (pss_cons (ps_expr (pe_bm PySem.F.plainAttrs_list PySem.F.slot_list_append PySem.F.type_list_append mt_append (pv 2) (pa_cons (pe_tup (pa_cons (pe_call G_lname hr (by rfl) T.g__law_name kp_lname b_lname .nil pass0 (pa_cons (pe_op op_sub (pv 1) pe_int) pa_nil)) (pa_cons pe_str (pa_cons (pe_call G_lname hr (by rfl) T.g__law_name kp_lname b_lname .nil pass0 (pa_cons (pe_op op_mod (pe_call G_lnext hr (by rfl) T.g__law_next kp_lnext b_lnext .nil pass0 (pa_cons (pv 0) pa_nil)) (pv 1)) pa_nil)) pa_nil)))) pa_nil)))
      (pss_one (ps_ret (pe_callTy call_tuple_of (by rfl) T.z_tuple (by decide +kernel) (pa_cons (pv 2) pa_nil)))))))), ?_⟩
    refine ⟨_, rfl, d, rfl, hd, fun H1 x s1 hd1 => ?_⟩
    obtain ⟨j, j1, j2⟩ := mod_lt_len (x := x) (n := 19) (by decide)
    obtain ⟨many, hmany⟩ : ∃ many : Nat, many = 100 + j := ⟨_, rfl⟩
    have hm : (100 : Int) + x % 19 = (many : Int) := by
      have : x % ((19 : Nat) : Int) = x % 19 := rfl
      omega
    refine ⟨_, _, rfl, rfl, (by show (0 : Int) < 19; decide), _, _, rfl, rfl, ?_⟩
    refine ⟨Nat.zero_le _, fun l nl => ?_⟩
    have nel := hd1.ne nl
    have nl0 := s1.nn hd1 nl
    have s2 := same_new (o := .lst []) nl
    have el2 : upd H1 l (.lst []) l = some (.lst []) := upd_same
    have b2 := s1.trans (SB.of (d := d) s2)
    have hd2 := hd1.same s2
    generalize upd H1 l (.lst []) = H2 at *
    refine ⟨_, rfl, _, _, rfl, rfl, _, rfl, by show (-(2 ^ 62) : Int) ≤ (100 + x % 19) - 1; omega, by show ((100 + x % 19) - 1 : Int) < _; omega, for_it walk_rng (fun i σ H' => ∃ (rs : List Row) (x3 x4 x5 : Option V), σ = [some (.ref d), some (.int (100 + x % 19)), some (.ref l), x3, x4, x5] ∧ SB d H H' ∧ DeckAt H' d ∧ RLAt H' l rs ∧ rs.length = i ∧ ∀ (n : Nat) (r : Row), rs[n]? = some r → RowL many n r)
      ⟨[], none, none, none, rfl, b2, hd2, RLAt.nil el2, rfl, fun n r e => by simp at e⟩ (fun _ _ _ _ _ => trivial) ?_ ?_⟩
    · clear b2 hd2 el2
      rintro i xv σ H9 H3 hi ⟨rs, x3, x4, x5, rfl, b3, hd3, rl, len, hrow⟩ ⟨rfl, rfl⟩
      have hi2 : i + 1 < many := by
        have : (((100 + x % 19) - 1 : Int)).toNat = many - 1 := by omega
        omega
      refine ⟨_, rfl, d, rfl, hd3, fun H4 c s4 hd4 => ?_⟩
      replace b3 := b3.trans s4
      replace rl := rl.sb s4 hd3 nel
      have fin : ∀ (H' : Hp) (t : Addr) (r : Row) (x3 x4 x5 : Option V), SB d H H' → DeckAt H' d → RLAt H' l rs → H' t = some (.tup r.vs) → RowL many i r → ∃ xs, H' l = some (.lst xs) ∧ xs.length < sizeLine ∧ ∃ (rs' : List Row) (y3 y4 y5 : Option V), [some (V.ref d), some (V.int (100 + x % 19)), some (V.ref l), x3, x4, x5] = [some (.ref d), some (.int (100 + x % 19)), some (.ref l), y3, y4, y5] ∧ SB d H (upd H' l (.lst (xs ++ [.ref t]))) ∧ DeckAt (upd H' l (.lst (xs ++ [.ref t]))) d ∧ RLAt (upd H' l (.lst (xs ++ [.ref t]))) l rs' ∧ rs'.length = i + 1 ∧ ∀ (n : Nat) (r : Row), rs'[n]? = some r → RowL many n r := by
        intro H' t r x3 x4 x5 b hd rl ht hr9
        obtain ⟨xs, ex, lx, rn⟩ := rl.snoc ht
        refine ⟨xs, ex, szl (by omega), rs ++ [r], _, _, _, rfl, sb_mut b nl0, hd.up2 nel, rn, by rw [List.length_append, len]; rfl, fun n r' e => ?_⟩
        rcases snoc_get e with z | ⟨z1, z2⟩
        · exact hrow n r' z
        · rw [z1, len, z2]
          exact hr9
      obtain ⟨xs, ex, lx⟩ := rl.lst
      refine ⟨_, rfl, _, _, rfl, rfl, (by show (0 : Int) < 30; decide), rfl, _, rfl, ite2 (fun _ => ?_) (fun _ => ?_)⟩
      · refine ⟨_, rfl, d, rfl, hd4, fun H5 y s5 hd5 => ?_⟩
        replace b3 := b3.trans s5
        replace rl := rl.sb s5 hd4 nel
        obtain ⟨jj, k1, k2⟩ := mod_lt_len (x := y) (n := many) (by omega)
        refine ⟨_, rfl, _, _, rfl, rfl, (by show (0 : Int) < 100 + x % 19; omega), jj, (by show [V.int (y % (100 + x % 19))] = _; rw [hm, k1]), ?_⟩
        obtain ⟨xs5, ex5, lx5⟩ := rl.lst
        refine ⟨_, rfl, .inl ⟨rfl, _, sqL ex5⟩, _, rfl, i, rfl, by show 4 ≤ sizeLine; decide, fun wl nwl => ?_⟩
        have t6 := same_new (o := .lst [.str ("ifz" : Str), .str ("ifn" : Str), .str ("ifc" : Str), .str ("ifd" : Str)]) nwl
        have e6 : upd H5 wl (.lst [.str ("ifz" : Str), .str ("ifn" : Str), .str ("ifc" : Str), .str ("ifd" : Str)]) wl = some (.lst (way4.map V.str)) := upd_same
        generalize upd H5 wl (.lst [.str ("ifz" : Str), .str ("ifn" : Str), .str ("ifc" : Str), .str ("ifd" : Str)]) = H6 at *
        obtain ⟨j4, m1, m2⟩ := mod_lt_len (x := c / 30) (n := 4) (by decide)
        obtain ⟨wd, ewd⟩ : ∃ wd, way4[j4]? = some wd := ⟨_, List.getElem?_eq_getElem (show j4 < way4.length from m2)⟩
        obtain ⟨v1, v2⟩ := way4_ok wd (List.mem_of_getElem? ewd)
        refine ⟨_, rfl, _, _, rfl, rfl, ⟨by decide, by decide⟩, _, _, rfl, rfl, (by show (0 : Int) < 4; decide), wl, _, _, _, rfl, rfl, sqL e6, (by show atI (way4.map V.str) (c / 30 % ((4 : Nat) : Int)) = _; rw [m1]; exact strs_get ewd), _, rfl, by show 3 ≤ sizeLine; decide, fun t nt => ?_⟩
        have s7 := t6.trans (same_new (o := .tup [.str (nmOf i), .str wd, .str (nmOf jj)]) nt)
        have e7 : upd H6 t (.tup [.str (nmOf i), .str wd, .str (nmOf jj)]) t = some (.tup (Row.vs ⟨nmOf i, wd, .str (nmOf jj)⟩)) := upd_same
        generalize upd H6 t (.tup [.str (nmOf i), .str wd, .str (nmOf jj)]) = H7 at *
        obtain ⟨xs9, g1, g2, g3⟩ := fin H7 t _ _ _ _ (b3.trans (SB.of s7)) (hd5.same s7) (rl.same s7) e7 ⟨rfl, v1, fun _ => ⟨jj, k2, rfl⟩⟩
        exact ⟨l, _, _, rfl, rfl, g1, g2, g3⟩
      · refine ⟨_, rfl, .inl ⟨rfl, _, sqL ex⟩, _, rfl, i, rfl, by show 4 ≤ sizeLine; decide, fun wl nwl => ?_⟩
        have t6 := same_new (o := .lst [.str ("rest" : Str), .str ("idle" : Str), .str ("toa" : Str), .str ("up" : Str)]) nwl
        have e6 : upd H4 wl (.lst [.str ("rest" : Str), .str ("idle" : Str), .str ("toa" : Str), .str ("up" : Str)]) wl = some (.lst (pla4.map V.str)) := upd_same
        generalize upd H4 wl (.lst [.str ("rest" : Str), .str ("idle" : Str), .str ("toa" : Str), .str ("up" : Str)]) = H6 at *
        obtain ⟨j4, m1, m2⟩ := mod_lt_len (x := c) (n := 4) (by decide)
        obtain ⟨wd, ewd⟩ : ∃ wd, pla4[j4]? = some wd := ⟨_, List.getElem?_eq_getElem (show j4 < pla4.length from m2)⟩
        have v1 := pla4_ok wd (List.mem_of_getElem? ewd)
        refine ⟨_, rfl, _, _, rfl, rfl, (by show (0 : Int) < 4; decide), wl, _, _, _, rfl, rfl, sqL e6, (by show atI (pla4.map V.str) (c % ((4 : Nat) : Int)) = _; rw [m1]; exact strs_get ewd), by show 3 ≤ sizeLine; decide, fun t nt => ?_⟩
        have s7 := t6.trans (same_new (o := .tup [.str (nmOf i), .str wd, .non]) nt)
        have e7 : upd H6 t (.tup [.str (nmOf i), .str wd, .non]) t = some (.tup (Row.vs ⟨nmOf i, wd, .non⟩)) := upd_same
        generalize upd H6 t (.tup [.str (nmOf i), .str wd, .non]) = H7 at *
        obtain ⟨xs9, g1, g2, g3⟩ := fin H7 t _ _ _ _ (b3.trans (SB.of s7)) (hd4.same s7) (rl.same s7) e7 ⟨rfl, plain_nd v1, fun z => absurd z (plain_no v1)⟩
        exact ⟨l, _, _, rfl, rfl, g1, g2, g3⟩
    · clear b2 hd2 el2
      rintro σ H3 ⟨rs, x3, x4, x5, rfl, b3, hd3, rl, len, hrow⟩
      have hlen : rs.length + 1 = many := by
        have : (((100 + x % 19) - 1 : Int)).toNat = many - 1 := by omega
        omega
      obtain ⟨xs, ex, lx⟩ := rl.lst
      refine ⟨_, rfl, .inl ⟨rfl, _, sqL ex⟩, _, rfl, _, _, rfl, rfl, many - 1, (by show [V.int (100 + x % 19 - 1)] = _; rw [show (100 : Int) + x % 19 - 1 = ((many - 1 : Nat) : Int) by omega]), ?_⟩
      refine ⟨_, rfl, d, rfl, hd3, fun H5 y s5 hd5 => ?_⟩
      replace b3 := b3.trans s5
      replace rl := rl.sb s5 hd3 nel
      obtain ⟨jj, k1, k2⟩ := mod_lt_len (x := y) (n := many) (by omega)
      refine ⟨_, rfl, _, _, rfl, rfl, (by show (0 : Int) < 100 + x % 19; omega), jj, (by show [V.int (y % (100 + x % 19))] = _; rw [hm, k1]), by show 3 ≤ sizeLine; decide, fun t nt => ?_⟩
      have s7 := same_new (o := .tup [.str (nmOf (many - 1)), .str ("go" : Str), .str (nmOf jj)]) nt
      have e7 : upd H5 t (.tup [.str (nmOf (many - 1)), .str ("go" : Str), .str (nmOf jj)]) t = some (.tup (Row.vs ⟨nmOf (many - 1), "go", .str (nmOf jj)⟩)) := upd_same
      replace b3 := b3.trans (SB.of (d := d) s7)
      replace hd5 := hd5.same s7
      replace rl := rl.same s7
      generalize upd H5 t (.tup [.str (nmOf (many - 1)), .str ("go" : Str), .str (nmOf jj)]) = H7 at *
      obtain ⟨xs9, g1, g2, rn⟩ := rl.snoc e7
      refine ⟨l, _, _, rfl, rfl, g1, szl (by omega), ?_⟩
      replace b3 := sb_mut (o := .lst (xs9 ++ [.ref t])) b3 nl0
      replace hd5 := hd5.up2 (o := .lst (xs9 ++ [.ref t])) nel
      generalize upd H7 l (.lst (xs9 ++ [.ref t])) = H8 at *
      obtain ⟨xs8, ex8, lx8⟩ := rn.lst
      refine ⟨_, rfl, l, _, rfl, .inl ⟨sqL ex8, fun p np => ?_⟩⟩
      refine q _ p _ (b3.trans (SB.of (same_new np))) (hd5.same (same_new np)) (b3.nn hd5 np) (rn.prog ex8 (same_new np) upd_same) (long_ok hlen (by omega) (fun n r e => ?_) rfl)
      rcases snoc_get e with z | ⟨z1, z2⟩
      · exact hrow n r z
      · subst z2
        refine ⟨?_, show GD ("go" : Str) by unfold GD; decide +kernel, fun _ => ⟨jj, k2, rfl⟩⟩
        rw [z1, show rs.length = many - 1 by omega]
def sp_law_flow (K : PySem.W.Frag) : Sp := fun vs H Q _ => ∃ d : Addr, vs = [.ref d] ∧ DeckAt H d ∧ ∀ H' p rs, SB d H H' → DeckAt H' d → H p = none → ProgAt H' p rs → DrawnOk rs → Q (.ref p) H'
theorem sc__law_flow : FnScope ["_law_deck_here", "_law_sort", "_law_many"] ["_law_deck_here"] (defScope (topS 86)) := ⟨rfl, rfl, rfl, by decide +kernel, rfl, by decide +kernel, by decide +kernel⟩
theorem ok__law_flow (T : Txt K mg) : Ok P w K mg base 6 "_law_flow" ["_law_deck_here"] (sp_law_flow K) := by
  obtain ⟨fd, F⟩ := T.d__law_flow
  obtain ⟨fd_lnext, G_lnext, kp_lnext, b_lnext⟩ := ok__law_next (P := P) (w := w) (base := base) T
  obtain ⟨fd_lrunning, G_lrunning, kp_lrunning, b_lrunning⟩ := ok__law_running (P := P) (w := w) (base := base) T
  obtain ⟨fd_lfree, G_lfree, kp_lfree, b_lfree⟩ := ok__law_free (P := P) (w := w) (base := base) T
  refine ⟨fd, F.ok sc__law_flow (fun vs H Q E h => ?_) (fun cdv A outer s H vs Q E hr h => ?_), F.kp, F.bindsN fun _ _ _ _ _ _ us hl => match us, hl with | [_], _ => rfl⟩
  · obtain ⟨d, rfl, _⟩ := h
    rfl
  · obtain ⟨d, rfl, hd, q⟩ := h
    have hu := hu_of hr
    refine ⟨_, PSs.nox (pss_cons (ps_set (i := 1) sc__law_flow.nd rfl (by first | exact Or.inl rfl | exact Or.inr rfl) (pe_op op_mod (pe_call G_lnext (hr.mono (by decide)) (by rfl) T.g__law_next kp_lnext b_lnext .nil pass0 (pa_cons (pv 0) pa_nil)) pe_int))
      (pss_cons (ps_if (pt_cmpR op_eq (pv 1) pe_int (nomark _))
      (pss_one (ps_ret (pe_call G_lrunning hr (by rfl) T.g__law_running kp_lrunning b_lrunning .nil pass0 (pa_cons (pv 0) (pa_cons (pe_op op_add pe_int (pe_op op_mod (pe_call G_lnext (hr.mono (by decide)) (by rfl) T.g__law_next kp_lnext b_lnext .nil pass0 (pa_cons (pv 0) pa_nil)) pe_int)) pa_nil)))))
      pss_nil)
      (pss_cons (ps_set (i := 2) sc__law_flow.nd rfl (by first | exact Or.inl rfl | exact Or.inr rfl) (pe_ix ix_list (pe_lst (pa_cons (pe_op op_add pe_int (pe_op op_mod (pe_call G_lnext (hr.mono (by decide)) (by rfl) T.g__law_next kp_lnext b_lnext .nil pass0 (pa_cons (pv 0) pa_nil)) pe_int)) (pa_cons (pe_op op_add pe_int (pe_op op_mod (pe_call G_lnext (hr.mono (by decide)) (by rfl) T.g__law_next kp_lnext b_lnext .nil pass0 (pa_cons (pv 0) pa_nil)) pe_int)) pa_nil))) (pe_op op_sub (pv 1) pe_int) (fun _ _ => rfl)))
      (pss_one (ps_ret (pe_call G_lfree (hr.mono (by decide)) (by rfl) T.g__law_free kp_lfree b_lfree .nil pass0 (pa_cons (pv 0) (pa_cons (pv 2) (pa_cons (pe_op op_add pe_int (pe_op op_mod (pe_call G_lnext (hr.mono (by decide)) (by rfl) T.g__law_next kp_lnext b_lnext .nil pass0 (pa_cons (pv 0) pa_nil)) pe_int)) pa_nil))))))))), ?_⟩
    refine ⟨_, rfl, d, rfl, hd, fun H1 x s1 hd1 => ?_⟩
    obtain ⟨j, j1, j2⟩ := mod_lt_len (x := x) (n := 3) (by decide)
    have j1' : x % 3 = (j : Int) := j1
    refine ⟨_, _, rfl, rfl, (by show (0 : Int) < 3; decide), ?_⟩
    refine ⟨_, rfl, rfl, _, rfl, ite2 (fun c0 => ?_) (fun c0 => ?_)⟩
    · refine ⟨_, rfl, _, rfl, d, rfl, hd1, fun H2 y s2 hd2 => ?_⟩
      obtain ⟨k, k1, k2⟩ := mod_lt_len (x := y) (n := 5) (by decide)
      refine ⟨_, _, rfl, rfl, (by show (0 : Int) < 5; decide), _, _, rfl, rfl, d, 1 + k, congrArg (fun z => [V.ref d, V.int z]) (show 1 + y % 5 = ((1 + k : Nat) : Int) by have : y % ((5 : Nat) : Int) = y % 5 := rfl; omega), hd2, by omega, fun H3 p rs s3 hd3 np hp dr => ?_⟩
      exact q _ p rs ((s1.trans s2).trans s3) hd3 ((s1.trans s2).nn hd2 np) hp dr
    · have hj : j = 1 ∨ j = 2 := by
        have : j ≠ 0 := fun z => c0 (decide_eq_true (show V.int (x % 3) = V.int 0 by rw [j1', z]; rfl))
        omega
      refine ⟨_, rfl, d, rfl, hd1, fun H2 y s2 hd2 => ?_⟩
      refine ⟨_, _, rfl, rfl, (by show (0 : Int) < 8; decide), _, _, rfl, rfl, ?_⟩
      refine ⟨_, rfl, d, rfl, hd2, fun H3 z s3 hd3 => ?_⟩
      refine ⟨_, _, rfl, rfl, (by show (0 : Int) < 24; decide), _, _, rfl, rfl, by show 2 ≤ sizeLine; decide, fun l nl => ?_⟩
      have s4 := same_new (o := .lst [.int (2 + y % 8), .int (8 + z % 24)]) nl
      have e4 : upd H3 l (.lst [.int (2 + y % 8), .int (8 + z % 24)]) l = some (.lst [.int (2 + y % 8), .int (8 + z % 24)]) := upd_same
      have b4 := ((s1.trans s2).trans s3).trans (SB.of (d := d) s4)
      have hd4 := hd3.same s4
      generalize upd H3 l (.lst [.int (2 + y % 8), .int (8 + z % 24)]) = H4 at *
      obtain ⟨many, m1, m2, m3⟩ : ∃ many : Nat, atI [V.int (2 + y % 8), V.int (8 + z % 24)] (x % 3 - 1) = some (.int (many : Int)) ∧ 1 ≤ many ∧ many ≤ 32 := by
        obtain ⟨a, a1, a2⟩ := mod_lt_len (x := y) (n := 8) (by decide)
        obtain ⟨b, b1, b2⟩ := mod_lt_len (x := z) (n := 24) (by decide)
        have a1' : y % 8 = (a : Int) := a1
        have b1' : z % 24 = (b : Int) := b1
        rw [j1', a1', b1']
        rcases hj with w | w <;> subst w
        · exact ⟨2 + a, rfl, by omega, by omega⟩
        · exact ⟨8 + b, rfl, by omega, by omega⟩
      refine ⟨_, rfl, _, _, rfl, rfl, l, _, _, _, rfl, rfl, sqL e4, m1, ?_⟩
      refine ⟨_, rfl, _, rfl, _, rfl, d, rfl, hd4, fun H5 u s5 hd5 => ?_⟩
      obtain ⟨k, k1, k2⟩ := mod_lt_len (x := u) (n := 4) (by decide)
      refine ⟨_, _, rfl, rfl, (by show (0 : Int) < 4; decide), _, _, rfl, rfl, d, many, 1 + k, congrArg (fun z => [V.ref d, V.int (many : Int), V.int z]) (show 1 + u % 4 = ((1 + k : Nat) : Int) by have : u % ((4 : Nat) : Int) = u % 4 := rfl; omega), hd5, m2, by omega, by omega, fun H6 p rs s6 hd6 np hp dr => ?_⟩
      exact q _ p rs ((b4.trans s5).trans s6) hd6 ((b4.trans s5).nn hd5 np) hp dr
end
end B65

end

section
set_option Elab.async false
set_option linter.all false
set_option maxRecDepth 100000
set_option maxHeartbeats 1000000
namespace B65
open PySem PySem.Spec PyProof.Rows L2
section
variable {P : Program} {w : World} {K : PySem.W.Frag} {mg : Str → Option Value} {base : Heap}
theorem dix {dd : Str} (h : dm deedsL dd = true) : dd ∈ deedsL ∧ ixOf dd deedsL < 31 ∧ longA (ixOf dd deedsL) = bytesOf dd ∧ beatsL[ixOf dd deedsL]? = some (beatsOf dd) ∧ (ixOf dd deedsL = 22 ↔ dd = ("go" : Str)) ∧ (ixOf dd deedsL = 27 ↔ dd = ("at" : Str)) ∧ ((22 < ixOf dd deedsL ∧ ixOf dd deedsL < 27) ↔ dm sIF dd = true) ∧ (ixOf dd deedsL = 30 ↔ dd = ("data" : Str)) := by
  have all : deedsL.all (fun dd => decide (ixOf dd deedsL < 31 ∧ longA (ixOf dd deedsL) = bytesOf dd ∧ beatsL[ixOf dd deedsL]? = some (beatsOf dd) ∧ (ixOf dd deedsL = 22 ↔ dd = ("go" : Str)) ∧ (ixOf dd deedsL = 27 ↔ dd = ("at" : Str)) ∧ ((22 < ixOf dd deedsL ∧ ixOf dd deedsL < 27) ↔ dm sIF dd = true) ∧ (ixOf dd deedsL = 30 ↔ dd = ("data" : Str)))) = true := by decide +kernel
  have m : dd ∈ deedsL := by
    unfold dm at h
    obtain ⟨y, y1, y2⟩ := List.any_eq_true.mp h
    have e : y = dd := by simpa using y2
    exact e ▸ y1
  exact ⟨m, of_decide_eq_true (List.all_eq_true.mp all dd m)⟩
theorem byt_bd (dd : Str) : 1 ≤ bytesOf dd ∧ bytesOf dd ≤ 2 := by
  unfold bytesOf
  split
  · omega
  · split <;> omega
theorem long_bd (rs : List Row) : 0 ≤ longOf rs ∧ longOf rs ≤ 2 * (rs.length : Int) := by
  induction rs with
  | nil => exact ⟨Int.le_refl _, Int.le_refl _⟩
  | cons r rs ih =>
    have b := byt_bd r.deed
    have e : longOf (r :: rs) = bytesOf r.deed + longOf rs := rfl
    rw [e, List.length_cons]
    omega
theorem ProgAt.sb {d p : Addr} {H H' : Hp} {rs : List Row} (s : SB d H H') (hd : DeckAt H d) (h : ProgAt H p rs) : ProgAt H' p rs := by
  obtain ⟨as, h1, h2, h3⟩ := h
  exact ⟨as, s.tup hd h1, h2, fun i r e => let ⟨a, e1, e2⟩ := h3 i r e; ⟨a, e1, s.tup hd e2⟩⟩
def Deeds (rs : List Row) : Prop := ∀ r ∈ rs, dm deedsL r.deed = true
def sp_law_places : Sp := fun vs H Q _ => ∃ (p : Addr) (rs : List Row) (b : Int), vs = [.ref p, .int b] ∧ ProgAt H p rs ∧ rs.length ≤ 120 ∧ Deeds rs ∧ ∀ H' l, Same H H' → H' l = some (.lst ((adrs b rs).map V.int)) → Q (.ref l) H'
theorem sc__law_places : FnScope ["_law_program", "_law_base_here", "_law_found", "_law_mark", "_law_deed", "_law_value_here"] ["_law_program", "_law_base_here"] (defScope (topS 77)) := ⟨rfl, rfl, rfl, by decide +kernel, rfl, by decide +kernel, by decide +kernel⟩
theorem ok__law_places (T : Txt K mg) : Ok P w K mg base 2 "_law_places" ["_law_program", "_law_base_here"] (sp_law_places) := by
  obtain ⟨fd, F⟩ := T.d__law_places
  obtain ⟨fd_llong, G_llong, kp_llong, b_llong⟩ := ok__law_long (P := P) (w := w) (base := base) T
  obtain ⟨fd_ldeeds, G_ldeeds, kp_ldeeds, b_ldeeds⟩ := ok__law_deeds (P := P) (w := w) (base := base) T
  refine ⟨fd, F.ok sc__law_places (fun vs H Q E h => ?_) (fun cdv A outer s H vs Q E hr h => ?_), F.kp, F.bindsN fun _ _ _ _ _ _ us hl => match us, hl with | [_, _], _ => rfl⟩
  · obtain ⟨p, rs, b, rfl, _⟩ := h
    rfl
  · obtain ⟨p, rs, b, rfl, hp, hl, hdd, q⟩ := h
    have hu := hu_of hr
    refine ⟨_, PSs.nox (pss_cons (ps_set (i := 2) sc__law_places.nd rfl (by first | exact Or.inl rfl | exact Or.inr rfl) (pe_lst pa_nil))
      (pss_cons (ps_for PassesOwn.never rfl (pi_tup (pv 0)) (pg_tup rfl (pgs_cons (pg_name (i := 3) sc__law_places.nd rfl (by first | exact Or.inl rfl | exact Or.inr rfl)) (pgs_cons (pg_name (i := 4) sc__law_places.nd rfl (by first | exact Or.inl rfl | exact Or.inr rfl)) (pgs_cons (pg_name (i := 5) sc__law_places.nd rfl (by first | exact Or.inl rfl | exact Or.inr rfl)) pgs_nil))))
      (pss_cons (ps_expr (pe_bm PySem.F.plainAttrs_list PySem.F.slot_list_append PySem.F.type_list_append mt_append (pv 2) (pa_cons (pv 1) pa_nil)))
      (pss_one (ps_set (i := 1) sc__law_places.nd rfl (by first | exact Or.inl rfl | exact Or.inr rfl) (pe_op op_add (pv 1) (pe_call G_llong hr (by rfl) T.g__law_long kp_llong b_llong .nil pass0 (pa_cons (pe_bm PySem.F.plainAttrs_list PySem.F.slot_list_index PySem.F.type_list_index mt_index (pe_call0 G_ldeeds hr (by rfl) T.g__law_deeds kp_ldeeds b_ldeeds .nil pass0) (pa_cons (pv 4) pa_nil)) pa_nil)))))))
      (pss_one (ps_ret (pv 2))))), ?_⟩
    refine ⟨Nat.zero_le _, fun l nl => ?_⟩
    obtain ⟨xs, h1, h2, h3⟩ := hp.walk
    refine ⟨_, rfl, p, rfl, ⟨_, sqT (same_new nl _ _ h1)⟩, for_it (walk_tup (K := K) (a := p) (xs := xs)) (fun i σ H' => ∃ x3 x4 x5, σ = [some (.ref p), some (.int (adrOf b rs i)), some (.ref l), x3, x4, x5] ∧ Same H H' ∧ H' l = some (.lst (((List.range i).map (adrOf b rs)).map V.int)))
      ⟨none, none, none, by rw [show adrOf b rs 0 = b from Int.add_zero b]; rfl, same_new nl, upd_same⟩ (fun i σ H' _ ⟨_, _, _, _, s, _⟩ => sqT (s _ _ h1)) ?_ ?_⟩
    · rintro i x σ H2 H' hi ⟨x3, x4, x5, rfl, s, el⟩ ⟨rfl, ex⟩
      obtain ⟨r, a, e1, rfl, ha⟩ := h3 i x ex
      refine ⟨a, _, rfl, sqT (s _ _ ha), rfl, _, _, rfl, _, _, rfl, _, _, rfl, rfl, ?_⟩
      refine ⟨_, rfl, .inl ⟨rfl, _, sqL el⟩, _, rfl, l, _, _, rfl, rfl, el, by rw [List.length_map, List.length_map, List.length_range]; exact szl (by omega), ?_⟩
      have s3 := same_mut (o := .lst (((List.range i).map (adrOf b rs)).map V.int ++ [V.int (adrOf b rs i)])) s nl
      have el3 : upd H' l (.lst (((List.range i).map (adrOf b rs)).map V.int ++ [V.int (adrOf b rs i)])) l = some (.lst (((List.range (i + 1)).map (adrOf b rs)).map V.int)) := by rw [upd_same, List.range_succ, List.map_append, List.map_append]; rfl
      generalize upd H' l (.lst (((List.range i).map (adrOf b rs)).map V.int ++ [V.int (adrOf b rs i)])) = H3 at *
      obtain ⟨m, lt, lo, be, _⟩ := dix (hdd r (List.mem_of_getElem? e1))
      obtain ⟨f1, f2, f3⟩ := ix_facts m
      refine ⟨_, rfl, rfl, fun H4 dl s4 n4 e4 => ?_⟩
      refine ⟨.inl ⟨rfl, _, sqL e4⟩, _, rfl, dl, _, _, _, _, rfl, rfl, sqL e4, rfl, flat_strs _, f1, f2, f3, _, rfl, lt, fun H5 s5 => ?_⟩
      rw [lo]
      exact ⟨_, _, rfl, rfl, _, _, _, by rw [adrOf_succ e1]; rfl, (s3.trans s4).trans s5, s5 _ _ (s4 _ _ el3)⟩
    · rintro σ H' ⟨x3, x4, x5, rfl, s, el⟩
      refine ⟨_, rfl, q H' l s ?_⟩
      rw [el, h2]
      rfl
def sp_law_whole_long : Sp := fun vs H Q _ => ∃ (p : Addr) (rs : List Row), vs = [.ref p] ∧ ProgAt H p rs ∧ rs.length ≤ 120 ∧ Deeds rs ∧ ∀ H', Same H H' → Q (.int (longOf rs)) H'
theorem sc__law_whole_long : FnScope ["_law_program", "_law_mark", "_law_deed", "_law_value_here"] ["_law_program"] (defScope (topS 78)) := ⟨rfl, rfl, rfl, by decide +kernel, rfl, by decide +kernel, by decide +kernel⟩
theorem ok__law_whole_long (T : Txt K mg) : Ok P w K mg base 2 "_law_whole_long" ["_law_program"] (sp_law_whole_long) := by
  obtain ⟨fd, F⟩ := T.d__law_whole_long
  obtain ⟨fd_llong, G_llong, kp_llong, b_llong⟩ := ok__law_long (P := P) (w := w) (base := base) T
  obtain ⟨fd_ldeeds, G_ldeeds, kp_ldeeds, b_ldeeds⟩ := ok__law_deeds (P := P) (w := w) (base := base) T
  refine ⟨fd, F.ok sc__law_whole_long (fun vs H Q E h => ?_) (fun cdv A outer s H vs Q E hr h => ?_), F.kp, F.bindsN fun _ _ _ _ _ _ us hl => match us, hl with | [_], _ => rfl⟩
  · obtain ⟨p, rs, rfl, _⟩ := h
    rfl
  · obtain ⟨p, rs, rfl, hp, hl, hdd, q⟩ := h
    have hu := hu_of hr
    refine ⟨_, PSs.nox (pss_one (ps_ret (pe_callB (cr_sum rfl) (by rfl) T.z_sum (by decide +kernel) (pa_cons (pe_lc (own := [("_law_mark", 1), ("_law_deed", 2), ("_law_value_here", 3)]) rfl sc__law_whole_long.nd (pi_tup (pv 0)) (blkOk_by (N := ["_law_program", "_law_mark", "_law_deed", "_law_value_here"]) (sc := defScope (topS 78)) (by decide +kernel)) (fun _ _ _ _ _ => (R65.pg_tupK (K := K) (n := 3) rfl rfl (pgs_cons (pg_name (i := 1) sc__law_whole_long.nd rfl (by first | exact Or.inl rfl | exact Or.inr rfl)) (pgs_cons (pg_name (i := 2) sc__law_whole_long.nd rfl (by first | exact Or.inl rfl | exact Or.inr rfl)) (pgs_cons (pg_name (i := 3) sc__law_whole_long.nd rfl (by first | exact Or.inl rfl | exact Or.inr rfl)) pgs_nil))))) (fun _ _ _ _ _ => pts_nil) (fun _ _ _ _ _ => (pe_call G_llong hr (by rfl) T.g__law_long kp_llong b_llong .nil pass0 (pa_cons (R65.pe_ixOfK (K := K) rfl (pe_call0 G_ldeeds hr (by rfl) T.g__law_deeds kp_ldeeds b_ldeeds .nil pass0) (pa_cons (pv 2) pa_nil)) pa_nil)))) pa_nil)))), ?_⟩
    obtain ⟨xs, h1, h2, h3⟩ := hp.walk
    refine ⟨_, rfl, p, rfl, ⟨_, sqT h1⟩, fun D nD => ?_⟩
    refine lc_st (walk_tup (K := K) (a := p) (xs := xs)) (fun i acc H' => Same H H' ∧ acc = ((rs.take i).map fun r => bytesOf r.deed).map V.int) ⟨same_new nD, rfl⟩ (fun i acc _ _ H' _ ⟨s, e⟩ => ⟨same_mut s nD, e⟩) (fun i acc H' _ ⟨s, e⟩ => sqT (s _ _ h1)) (fun i acc H' hi ⟨s, e⟩ => by rw [e, List.length_map, List.length_map, List.length_take]; exact szl (by omega)) (fun i x acc H1 H2 hi eD ⟨s, e⟩ ⟨eH, ex⟩ Qy Qn ky kn => ?_) (fun acc H' eD ⟨s, e⟩ => ?_)
    · subst eH
      obtain ⟨r, a, e1, rfl, ha⟩ := h3 i x ex
      obtain ⟨m, lt, lo, be, _⟩ := dix (hdd r (List.mem_of_getElem? e1))
      obtain ⟨f1, f2, f3⟩ := ix_facts m
      refine ⟨a, _, rfl, sqT (s _ _ ha), rfl, _, _, rfl, _, _, rfl, _, _, rfl, rfl, rfl, rfl, fun H4 dl s4 n4 e4 => ?_⟩
      refine ⟨.inl ⟨rfl, _, sqL e4⟩, _, rfl, dl, _, _, _, _, rfl, rfl, sqL e4, rfl, flat_strs _, f1, f2, f3, _, rfl, lt, fun H5 s5 => ky _ _ (s5 _ _ (s4 _ _ eD)) ⟨(s.trans s4).trans s5, ?_⟩⟩
      rw [e, lo, take_succ_map (fun r => bytesOf r.deed) e1, List.map_append]
      rfl
    · rw [h2, take_all] at e
      exact ⟨D, _, rfl, sqL (by rw [eD, e]), q _ s⟩
def sp_law_end (K : PySem.W.Frag) : Sp := fun vs H Q _ => ∃ (p : Addr) (rs : List Row) (n : Nat) (r : Row) (m : Str), vs = [.ref p, .int (n : Int)] ∧ ProgAt H p rs ∧ rs.length ≤ 120 ∧ rs[n]? = some r ∧ r.val = .str m ∧ m ∈ marks rs ∧ ∀ H', Same H H' → Q (.int (tgt rs r : Nat)) H'
theorem sc__law_end : FnScope ["_law_program", "_law_k", "_law_row"] ["_law_program", "_law_k"] (defScope (topS 79)) := ⟨rfl, rfl, rfl, by decide +kernel, rfl, by decide +kernel, by decide +kernel⟩
theorem ok__law_end (T : Txt K mg) : Ok P w K mg base 1 "_law_end" ["_law_program", "_law_k"] (sp_law_end K) := by
  obtain ⟨fd, F⟩ := T.d__law_end
  refine ⟨fd, F.ok sc__law_end (fun vs H Q E h => ?_) (fun cdv A outer s H vs Q E hr h => ?_), F.kp, F.bindsN fun _ _ _ _ _ _ us hl => match us, hl with | [_, _], _ => rfl⟩
  · obtain ⟨p, rs, n, r, m, rfl, _⟩ := h
    rfl
  · obtain ⟨p, rs, n, r, m, rfl, hp, hl, hn, hv, hm, q⟩ := h
    have hu := hu_of hr
    refine ⟨_, PSs.nox (pss_one (ps_ret (pe_bm PySem.F.plainAttrs_list PySem.F.slot_list_index PySem.F.type_list_index mt_index (pe_lc (own := [("_law_row", 2)]) rfl sc__law_end.nd (pi_tup (pv 0)) (blkOk_by (N := ["_law_program", "_law_k", "_law_row"]) (sc := defScope (topS 79)) (by decide +kernel)) (fun _ _ _ _ _ => (pg_name (i := 2) sc__law_end.nd rfl (by first | exact Or.inl rfl | exact Or.inr rfl))) (fun _ _ _ _ _ => pts_nil) (fun _ _ _ _ _ => (pe_ix (r := rIxT K) ix_tup (pv 2) pe_int (fun _ _ => rfl)))) (pa_cons (pe_ix ix_tup (pe_ix ix_tup (pv 0) (pv 1) (fun _ _ => rfl)) pe_int (fun _ _ => rfl)) pa_nil)))), ?_⟩
    obtain ⟨xs, h1, h2, h3⟩ := hp.walk
    refine ⟨_, rfl, p, rfl, ⟨_, sqT h1⟩, fun D nD => ?_⟩
    refine lc_st (walk_tup (K := K) (a := p) (xs := xs)) (fun i acc H' => Same H H' ∧ acc = ((marks rs).take i).map V.str) ⟨same_new nD, rfl⟩ (fun i acc _ _ H' _ ⟨s, e⟩ => ⟨same_mut s nD, e⟩) (fun i acc H' _ ⟨s, e⟩ => sqT (s _ _ h1)) (fun i acc H' hi ⟨s, e⟩ => by rw [e, List.length_map, List.length_take]; exact szl (by omega)) (fun i x acc H1 H2 hi eD ⟨s, e⟩ ⟨eH, ex⟩ Qy Qn ky kn => ?_) (fun acc H' eD ⟨s, e⟩ => ?_)
    · subst eH
      obtain ⟨r, a, e1, rfl, ha⟩ := h3 i x ex
      refine ⟨rfl, _, rfl, a, _, _, _, rfl, rfl, sqT (s _ _ ha), at0, ky _ _ eD ⟨s, ?_⟩⟩
      rw [e]
      exact (take_succ_map V.str (by unfold marks; rw [List.getElem?_map, e1]; rfl)).symm
    · have ea : acc = (marks rs).map V.str := by
        rw [e, List.take_of_length_le]
        rw [h2]
        unfold marks
        rw [List.length_map]
        exact Nat.le_refl _
      subst ea
      obtain ⟨f1, f2, f3⟩ := ix_facts hm
      obtain ⟨xs2, a2, g1, g2, g3⟩ := (hp.same s).row hn
      refine ⟨.inl ⟨rfl, _, sqL eD⟩, _, rfl, _, rfl, p, _, _, _, rfl, rfl, sqT g1, g2, a2, _, _, _, rfl, rfl, sqT g3, at2, D, _, _, _, _, rfl, rfl, sqL eD, ?_, flat_strs _, f1, ?_, ?_, ?_⟩
      · rw [hv]; rfl
      · rw [hv]; exact f2
      · rw [hv]; exact f3
      · rw [← tgt_eq hv]
        exact q _ s
def sp_law_base : Sp := fun vs H Q _ => ∃ (d p : Addr) (rs : List Row), vs = [.ref d, .ref p] ∧ DeckAt H d ∧ ProgAt H p rs ∧ rs.length ≤ 120 ∧ Deeds rs ∧ ∀ H' (b : Int), SB d H H' → DeckAt H' d → 0 ≤ b → b + longOf rs ≤ 256 → Q (.int b) H'
theorem sc__law_base : FnScope ["_law_deck_here", "_law_program", "_law_room"] ["_law_deck_here", "_law_program"] (defScope (topS 80)) := ⟨rfl, rfl, rfl, by decide +kernel, rfl, by decide +kernel, by decide +kernel⟩
theorem ok__law_base (T : Txt K mg) : Ok P w K mg base 3 "_law_base" ["_law_deck_here", "_law_program"] (sp_law_base) := by
  obtain ⟨fd, F⟩ := T.d__law_base
  obtain ⟨fd_lwhole_long, G_lwhole_long, kp_lwhole_long, b_lwhole_long⟩ := ok__law_whole_long (P := P) (w := w) (base := base) T
  obtain ⟨fd_lnext, G_lnext, kp_lnext, b_lnext⟩ := ok__law_next (P := P) (w := w) (base := base) T
  refine ⟨fd, F.ok sc__law_base (fun vs H Q E h => ?_) (fun cdv A outer s H vs Q E hr h => ?_), F.kp, F.bindsN fun _ _ _ _ _ _ us hl => match us, hl with | [_, _], _ => rfl⟩
  · obtain ⟨d, p, rs, rfl, _⟩ := h
    rfl
  · obtain ⟨d, p, rs, rfl, hd, hp, hl, hdd, q⟩ := h
    have hu := hu_of hr
    refine ⟨_, PSs.nox (pss_cons (ps_set (i := 2) sc__law_base.nd rfl (by first | exact Or.inl rfl | exact Or.inr rfl) (pe_op op_sub pe_int (pe_call G_lwhole_long hr (by rfl) T.g__law_whole_long kp_lwhole_long b_lwhole_long .nil pass0 (pa_cons (pv 1) pa_nil))))
      (pss_one (ps_ret (pe_op op_mod (pe_ix ix_list (pe_lst (pa_cons (pe_op op_mod (pe_call G_lnext (hr.mono (by decide)) (by rfl) T.g__law_next kp_lnext b_lnext .nil pass0 (pa_cons (pv 0) pa_nil)) (pe_op op_add (pv 2) pe_int)) (pa_cons (pv 2) (pa_cons pe_int pa_nil)))) (pe_op op_mod (pe_call G_lnext (hr.mono (by decide)) (by rfl) T.g__law_next kp_lnext b_lnext .nil pass0 (pa_cons (pv 0) pa_nil)) pe_int) (fun _ _ => rfl)) pe_int)))), ?_⟩
    obtain ⟨l1, l2⟩ := long_bd rs
    refine ⟨_, rfl, p, rs, rfl, hp, hl, hdd, fun H1 s1 => ⟨_, _, rfl, rfl, ?_⟩⟩
    refine ⟨_, rfl, d, rfl, hd.same s1, fun H2 x s2 hd2 => ?_⟩
    have b2 := (SB.of (d := d) s1).trans s2
    refine ⟨_, rfl, _, _, rfl, rfl, _, _, rfl, rfl, (by show (0 : Int) < 256 - longOf rs + 1; omega), _, rfl, by show 3 ≤ sizeLine; decide, fun l nl => ?_⟩
    have s3 := same_new (o := .lst [.int (x % (256 - longOf rs + 1)), .int (256 - longOf rs), .int 0]) nl
    have e3 : upd H2 l (.lst [.int (x % (256 - longOf rs + 1)), .int (256 - longOf rs), .int 0]) l = some (.lst [.int (x % (256 - longOf rs + 1)), .int (256 - longOf rs), .int 0]) := upd_same
    have nel := hd2.ne nl
    have b3 := b2.trans (SB.of (d := d) s3)
    have hd3 := hd2.same s3
    generalize upd H2 l (.lst [.int (x % (256 - longOf rs + 1)), .int (256 - longOf rs), .int 0]) = H3 at *
    refine ⟨_, rfl, d, rfl, hd3, fun H4 y s4 hd4 => ?_⟩
    obtain ⟨j, j1, j2⟩ := mod_lt_len (x := y) (n := 3) (by decide)
    have j1' : y % 3 = (j : Int) := j1
    obtain ⟨v, v1, v2, v3⟩ : ∃ v : Int, atI [V.int (x % (256 - longOf rs + 1)), V.int (256 - longOf rs), V.int 0] (y % 3) = some (.int v) ∧ 0 ≤ v ∧ v ≤ 256 - longOf rs := by
      have m1 := Int.emod_nonneg x (show 256 - longOf rs + 1 ≠ 0 by omega)
      have m2 := Int.emod_lt_of_pos x (show 0 < 256 - longOf rs + 1 by omega)
      rw [j1']
      match j, j2 with
      | 0, _ => exact ⟨_, rfl, by omega, by omega⟩
      | 1, _ => exact ⟨_, rfl, by omega, by omega⟩
      | 2, _ => exact ⟨_, rfl, by omega, by omega⟩
    refine ⟨_, _, rfl, rfl, (by show (0 : Int) < 3; decide), l, _, _, _, rfl, rfl, sqL (s4.lst nel e3), v1, _, _, rfl, rfl, (by show (0 : Int) < 256; decide), ?_⟩
    have w1 := Int.emod_nonneg v (show (256 : Int) ≠ 0 by decide)
    have w2 : v % 256 ≤ v := by omega
    exact q _ _ (b3.trans s4) hd4 w1 (by omega)
end
end B65

end

section
set_option Elab.async false
set_option linter.all false
set_option maxRecDepth 100000
set_option maxHeartbeats 1000000
namespace B65
open PySem PySem.Spec PyProof.Rows L2
section
variable {P : Program} {w : World} {K : PySem.W.Frag} {mg : Str → Option Value} {base : Heap}
theorem DictAt.one {H : Hp} {d t : Addr} {e : Edge} (h1 : H d = some (.dK [(Sum.inl (e.1 : Int), .ref t)])) (h2 : H t = some (.tup [.int e.2.1, .int e.2.2])) : DictAt H d [e] := by
  refine ⟨_, h1, rfl, fun i x z => ?_⟩
  match i, z with
  | 0, z => cases z; exact ⟨t, rfl, h2⟩
  | i + 1, z => simp at z
theorem DictAt.two {H : Hp} {d t u : Addr} {e f : Edge} (h1 : H d = some (.dK [(Sum.inl (e.1 : Int), .ref t), (Sum.inl (f.1 : Int), .ref u)])) (h2 : H t = some (.tup [.int e.2.1, .int e.2.2])) (h3 : H u = some (.tup [.int f.2.1, .int f.2.2])) : DictAt H d [e, f] := by
  refine ⟨_, h1, rfl, fun i x z => ?_⟩
  match i, z with
  | 0, z => cases z; exact ⟨t, rfl, h2⟩
  | 1, z => cases z; exact ⟨u, rfl, h3⟩
  | i + 2, z => simp at z
theorem DictAt.same {H H' : Hp} {d : Addr} {es : List Edge} (s : Same H H') (h : DictAt H d es) : DictAt H' d es := h.nl (NL.of s)
theorem nx_data {b : Int} {rs : List Row} {n : Nat} {r : Row} (hn : rs[n]? = some r) (h : r.deed = ("data" : Str)) : nxOf b rs n = [] := by
  unfold nxOf
  rw [hn]
  exact if_pos h
theorem nx_one {b : Int} {rs : List Row} {n : Nat} {r : Row} (hn : rs[n]? = some r) (h : r.deed ≠ ("data" : Str)) (h2 : dm sIF r.deed = false) : nxOf b rs n = [edgeOf rs n r] := by
  unfold nxOf
  rw [hn]
  show (if r.deed = "data" then [] else if dm sIF r.deed = true then _ else [edgeOf rs n r]) = _
  rw [if_neg h, if_neg (by rw [h2]; decide)]
theorem nx_if {b : Int} {rs : List Row} {n : Nat} {r : Row} (hn : rs[n]? = some r) (h : r.deed ≠ ("data" : Str)) (h2 : dm sIF r.deed = true) : nxOf b rs n = (if tgt rs r < n + 1 then [(tgt rs r, farOf b rs n r, farOf b rs n r), (n + 1, 2, 2)] else if tgt rs r = n + 1 then [(n + 1, 2, farOf b rs n r)] else [(n + 1, 2, 2), (tgt rs r, farOf b rs n r, farOf b rs n r)]) := by
  unfold nxOf
  rw [hn]
  show (if r.deed = "data" then [] else if dm sIF r.deed = true then _ else [edgeOf rs n r]) = _
  rw [if_neg h, if_pos h2]
theorem dif_beats (dd : Str) (h : dm sIF dd = true) : beatsOf dd = 2 := by
  unfold dm at h
  obtain ⟨y, y1, y2⟩ := List.any_eq_true.mp h
  have e : y = dd := by simpa using y2
  subst e
  have all : sIF.all (fun d => decide (beatsOf d = 2)) = true := by decide +kernel
  exact of_decide_eq_true (List.all_eq_true.mp all y y1)
def sp_law_steps (K : PySem.W.Frag) : Sp := fun vs H Q _ => ∃ (p : Addr) (rs : List Row) (b : Int) (g : Nat), vs = [.ref p, .int b] ∧ ProgAt H p rs ∧ rs.length ≤ 120 ∧ Deeds rs ∧ (∀ n r, rs[n]? = some r → RowOk rs g n r) ∧ g ≤ rs.length ∧ ∀ H' s, Same H H' → StepsAt H' s rs.length (nxOf b rs) → Q (.ref s) H'
theorem sc__law_steps : FnScope ["_law_program", "_law_base_here", "_law_places_here", "_law_found", "_law_k", "_law_row", "_law_at", "_law_beats_here", "_law_steps_here", "_law_end_here", "_law_far"] ["_law_program", "_law_base_here"] (defScope (topS 81)) := ⟨rfl, rfl, rfl, by decide +kernel, rfl, by decide +kernel, by decide +kernel⟩
theorem ok__law_steps (T : Txt K mg) : Ok P w K mg base 3 "_law_steps" ["_law_program", "_law_base_here"] (sp_law_steps K) := by
  obtain ⟨fd, F⟩ := T.d__law_steps
  obtain ⟨fd_lplaces, G_lplaces, kp_lplaces, b_lplaces⟩ := ok__law_places (P := P) (w := w) (base := base) T
  obtain ⟨fd_ldeeds, G_ldeeds, kp_ldeeds, b_ldeeds⟩ := ok__law_deeds (P := P) (w := w) (base := base) T
  obtain ⟨fd_lbeats, G_lbeats, kp_lbeats, b_lbeats⟩ := ok__law_beats (P := P) (w := w) (base := base) T
  obtain ⟨fd_lend, G_lend, kp_lend, b_lend⟩ := ok__law_end (P := P) (w := w) (base := base) T
  refine ⟨fd, F.ok sc__law_steps (fun vs H Q E h => ?_) (fun cdv A outer s H vs Q E hr h => ?_), F.kp, F.bindsN fun _ _ _ _ _ _ us hl => match us, hl with | [_, _], _ => rfl⟩
  · obtain ⟨p, rs, b, g, rfl, _⟩ := h
    rfl
  · obtain ⟨p, rs, b, g, rfl, hp, hl, hdd, hok, hgl, q⟩ := h
    have hu := hu_of hr
    refine ⟨_, PSs.nox (pss_cons (ps_set (i := 2) sc__law_steps.nd rfl (by first | exact Or.inl rfl | exact Or.inr rfl) (pe_call G_lplaces hr (by rfl) T.g__law_places kp_lplaces b_lplaces .nil pass0 (pa_cons (pv 0) (pa_cons (pv 1) pa_nil))))
      (pss_cons (ps_set (i := 3) sc__law_steps.nd rfl (by first | exact Or.inl rfl | exact Or.inr rfl) (pe_lst pa_nil))
      (pss_cons (ps_for PassesOwn.never rfl (R65.pi_enumT (by rfl) T.z_enumerate (pa_cons (pv 0) pa_nil)) (pg_tup rfl (pgs_cons (pg_name (i := 4) sc__law_steps.nd rfl (by first | exact Or.inl rfl | exact Or.inr rfl)) (pgs_cons (pg_name (i := 5) sc__law_steps.nd rfl (by first | exact Or.inl rfl | exact Or.inr rfl)) pgs_nil)))
      (pss_cons (ps_set (i := 6) sc__law_steps.nd rfl (by first | exact Or.inl rfl | exact Or.inr rfl) (pe_bm PySem.F.plainAttrs_list PySem.F.slot_list_index PySem.F.type_list_index mt_index (pe_call0 G_ldeeds (hr.mono (by decide)) (by rfl) T.g__law_deeds kp_ldeeds b_ldeeds .nil pass0) (pa_cons (pe_ix ix_tup (pv 5) pe_int (fun _ _ => rfl)) pa_nil)))
      (pss_cons (ps_set (i := 7) sc__law_steps.nd rfl (by first | exact Or.inl rfl | exact Or.inr rfl) (pe_call G_lbeats (hr.mono (by decide)) (by rfl) T.g__law_beats kp_lbeats b_lbeats .nil pass0 (pa_cons (pv 6) pa_nil)))
      (pss_cons (ps_set (i := 8) sc__law_steps.nd rfl (by first | exact Or.inl rfl | exact Or.inr rfl) (pe_disp (pps_cons (pe_op op_add (pv 4) pe_int) (pe_tup (pa_cons (pv 7) (pa_cons (pv 7) pa_nil))) pps_nil) (by rfl) (by rfl) (fun z => by cases z) (by decide)))
      (Evl.pss_cut (ps_if (pt_cmpR op_eq (pv 6) pe_int (nomark _))
      (pss_one (ps_set (i := 8) sc__law_steps.nd rfl (by first | exact Or.inl rfl | exact Or.inr rfl) (pe_disp (pps_cons (pe_call G_lend (hr.mono (by decide)) (by rfl) T.g__law_end kp_lend b_lend .nil pass0 (pa_cons (pv 0) (pa_cons (pv 4) pa_nil))) (pe_tup (pa_cons pe_int (pa_cons pe_int pa_nil))) pps_nil) (by rfl) (by rfl) (fun z => by cases z) (by decide))))
      (pss_one (ps_if (pt_cmpR op_eq (pv 6) pe_int (nomark _))
      (pss_one (ps_set (i := 8) sc__law_steps.nd rfl (by first | exact Or.inl rfl | exact Or.inr rfl) (pe_disp (pps_cons (pe_op op_add (pv 4) pe_int) (pe_tup (pa_cons pe_int (pa_cons pe_int pa_nil))) pps_nil) (by rfl) (by rfl) (fun z => by cases z) (by decide))))
      (pss_one (ps_if (pt_chain op_lt op_lt pe_int (pv 6) pe_int)
      (pss_cons (ps_set (i := 9) sc__law_steps.nd rfl (by first | exact Or.inl rfl | exact Or.inr rfl) (pe_call G_lend (hr.mono (by decide)) (by rfl) T.g__law_end kp_lend b_lend .nil pass0 (pa_cons (pv 0) (pa_cons (pv 4) pa_nil))))
      (pss_cons (ps_set (i := 10) sc__law_steps.nd rfl (by first | exact Or.inl rfl | exact Or.inr rfl) (pe_op op_add pe_int (pe_callTy call_int1 (by rfl) T.z_int (by decide +kernel) (pa_cons (pe_cmpR op_ne (pe_op op_fdiv (pe_ix ix_list (pv 2) (pv 9) (fun _ _ => rfl)) pe_int) (pe_op op_fdiv (pe_ix ix_list (pv 2) (pe_op op_add (pv 4) pe_int) (fun _ _ => rfl)) pe_int) (nomark _)) pa_nil))))
      (pss_one (ps_dput hu (pv 8) (pv 9) (pe_ix ix_list (pe_lst (pa_cons (pe_tup (pa_cons (pv 10) (pa_cons (pv 10) pa_nil))) (pa_cons (pe_tup (pa_cons pe_int (pa_cons (pv 10) pa_nil))) pa_nil))) (pe_callTy call_int1 (by rfl) T.z_int (by decide +kernel) (pa_cons (pe_cmpR op_eq (pv 9) (pe_op op_add (pv 4) pe_int) (nomark _)) pa_nil)) (fun _ _ => rfl)) rfl))))
      pss_nil)))))
      (pss_one (ps_expr (pe_bm PySem.F.plainAttrs_list PySem.F.slot_list_append PySem.F.type_list_append mt_append (pv 3) (pa_cons (pe_ix ix_list (pe_lst (pa_cons (pv 8) (pa_cons pe_dnewK pa_nil))) (pe_callTy call_int1 (by rfl) T.z_int (by decide +kernel) (pa_cons (pe_cmpR op_eq (pv 6) pe_int (nomark _)) pa_nil)) (fun _ _ => rfl)) pa_nil)))))))))
      (pss_one (ps_ret (pv 3)))))), ?_⟩
    refine ⟨_, rfl, _, rfl, p, rs, b, rfl, hp, hl, hdd, fun H1 pl s1 epl => ?_⟩
    refine ⟨Nat.zero_le _, fun l nl => ?_⟩
    have s2 := s1.trans (same_new (o := .lst []) nl)
    have epl2 := same_new (o := .lst []) nl _ _ epl
    have el2 : upd H1 l (.lst []) l = some (.lst []) := upd_same
    have nl0 := none_of s1 nl
    have lpl := ne_of_none epl nl
    generalize upd H1 l (.lst []) = H2 at *
    obtain ⟨xs, h1, h2, h3⟩ := (hp.same s2).walk
    refine ⟨_, rfl, p, _, rfl, sqT h1, for_it (walk_enumT (K := K) (a := p) (xs := xs)) (fun i σ H' => ∃ (ds : List Addr) (x4 x5 x6 x7 x8 x9 x10 : Option V), σ = [some (.ref p), some (.int b), some (.ref pl), some (.ref l), x4, x5, x6, x7, x8, x9, x10] ∧ Same H H' ∧ H' pl = some (.lst ((adrs b rs).map V.int)) ∧ H' l = some (.lst (ds.map V.ref)) ∧ ds.length = i ∧ (∀ j, j < i → ∃ d es, ds[j]? = some d ∧ es.Perm (nxOf b rs j) ∧ DictAt H' d es) ∧ H' p = some (.tup xs))
      ⟨[], none, none, none, none, none, none, none, rfl, s2, epl2, el2, rfl, (fun j hj => by omega), h1⟩ (fun i σ H' _ ⟨_, _, _, _, _, _, _, _, _, _, _, _, _, _, e⟩ => sqT e) ?_ ?_⟩
    · clear epl2 el2
      rintro i x σ H3 H' hi ⟨ds, x4, x5, x6, x7, x8, x9, x10, rfl, s3, epl3, el3, len, hds, ep3⟩ ⟨T9, y1, y2, rfl, nT, rfl, e1, e2⟩
      cases e1
      have hi2 : i < rs.length := by omega
      have er : rs[i]? = some rs[i] := List.getElem?_eq_getElem hi2
      obtain ⟨xs9, a, p1, p2, p3⟩ := (hp.same s3).row er
      rw [ep3] at p1
      cases p1
      have e2' : y2 = .ref a := by
        obtain ⟨r', a', q1, q2, q3⟩ := h3 i y2 e2
        have := atI_nat (j := i) e2
        rw [p2] at this
        exact (Option.some.inj this).symm
      subst e2'
      generalize rs[i] = r at *
      have t4 := same_new (o := .tup [.int ((i : Nat) : Int), .ref a]) nT
      have eT : upd H3 T9 (.tup [.int ((i : Nat) : Int), .ref a]) T9 = some (.tup [.int ((i : Nat) : Int), .ref a]) := upd_same
      generalize upd H3 T9 (.tup [.int ((i : Nat) : Int), .ref a]) = H4 at *
      refine ⟨T9, _, rfl, sqT eT, rfl, _, _, rfl, _, _, rfl, rfl, ?_⟩
      obtain ⟨m, lt, lo, be, d22, d27, dif, d30⟩ := dix (hdd r (List.mem_of_getElem? er))
      obtain ⟨f1, f2, f3⟩ := ix_facts m
      refine ⟨rfl, fun H5 dl s5 n5 e5 => ⟨.inl ⟨rfl, _, sqL e5⟩, _, rfl, a, _, _, _, rfl, rfl, sqT ((t4.trans s5) _ _ p3), at1, dl, _, _, _, _, rfl, rfl, sqL e5, rfl, flat_strs _, f1, f2, f3, ?_⟩⟩
      generalize hat : ixOf r.deed deedsL = att at *
      refine ⟨_, rfl, att, beatsOf r.deed, rfl, be, fun H6 s6 => ?_⟩
      have t6 := (t4.trans s5).trans s6
      refine fun d0 nd0 => ⟨_, rfl, _, _, rfl, rfl, _, rfl, _, rfl, by show 2 ≤ sizeLine; decide, fun t0 nt0 => ?_⟩
      have hd0 : d0 ≠ t0 := fun z => by rw [← z, upd_same] at nt0; cases nt0
      refine ⟨upd_at upd_same hd0, [((Sum.inl ((i + 1 : Nat) : Int) : Key), V.ref t0)], rfl, by show 1 ≤ 15; decide, ?_⟩
      have t7 := t6.trans (same_mut (o := .dK (mergeK [] [((Sum.inl ((i + 1 : Nat) : Int) : Key), V.ref t0)])) ((same_new (o := .dK []) nd0).trans (same_new (o := .tup [.int (beatsOf r.deed), .int (beatsOf r.deed)]) nt0)) nd0)
      have ed7 : upd (upd (upd H6 d0 (.dK [])) t0 (.tup [.int (beatsOf r.deed), .int (beatsOf r.deed)])) d0 (.dK (mergeK [] [((Sum.inl ((i + 1 : Nat) : Int) : Key), V.ref t0)])) d0 = some (.dK [(Sum.inl ((i + 1 : Nat) : Int), .ref t0)]) := upd_same
      have et7 : upd (upd (upd H6 d0 (.dK [])) t0 (.tup [.int (beatsOf r.deed), .int (beatsOf r.deed)])) d0 (.dK (mergeK [] [((Sum.inl ((i + 1 : Nat) : Int) : Key), V.ref t0)])) t0 = some (.tup [.int (beatsOf r.deed), .int (beatsOf r.deed)]) := upd_at upd_same hd0.symm
      have nd3 : H3 d0 = none := none_of t6 nd0
      generalize upd (upd (upd H6 d0 (.dK [])) t0 (.tup [.int (beatsOf r.deed), .int (beatsOf r.deed)])) d0 (.dK (mergeK [] [((Sum.inl ((i + 1 : Nat) : Int) : Key), V.ref t0)])) = H7 at *
      refine ⟨fun σ' H' => ∃ (dd : Addr) (es : List Edge) (x9 x10 : Option V), σ' = [some (.ref p), some (.int b), some (.ref pl), some (.ref l), some (.int (i : Int)), some (.ref a), some (.int (att : Int)), some (.int (beatsOf r.deed)), some (.ref dd), x9, x10] ∧ Same H3 H' ∧ (r.deed ≠ ("data" : Str) → es.Perm (nxOf b rs i)) ∧ DictAt H' dd es, ?_, ?_⟩
      · have mk : ∀ (H8 : Hp) (k : Nat) (x y : Int), Same H3 H8 → ∀ dd t, H8 dd = none → t ≠ dd → upd H8 dd (.dK []) t = none → Same H3 (upd (upd (upd H8 dd (.dK [])) t (.tup [.int x, .int y])) dd (.dK (mergeK [] [((Sum.inl (k : Int) : Key), V.ref t)]))) ∧ DictAt (upd (upd (upd H8 dd (.dK [])) t (.tup [.int x, .int y])) dd (.dK (mergeK [] [((Sum.inl (k : Int) : Key), V.ref t)]))) dd [(k, x, y)] := by
          intro H8 k x y s8 dd t nd ht nt
          exact ⟨s8.trans (same_mut ((same_new (o := .dK []) nd).trans (same_new (o := .tup [.int x, .int y]) nt)) nd), DictAt.one (e := (k, x, y)) upd_same (upd_at upd_same ht)⟩
        refine ⟨_, rfl, rfl, _, rfl, ite2 (fun c => ?_) (fun c => ?_)⟩
        · have c22 : att = 22 := by have := V.int.inj (of_decide_eq_true c); omega
          have hgo := d22.mp c22
          obtain ⟨mm, ev, hm, hm2⟩ := (hok i r er).jump (.inr hgo)
          refine fun dd nd => ⟨_, rfl, _, rfl, p, rs, i, r, mm, rfl, (hp.same s3).same (t7.trans (same_new nd)), hl, er, ev, hm, fun H8 s8 => ⟨by show 2 ≤ sizeLine; decide, fun t nt => ?_⟩⟩
          have hdt : t ≠ dd := fun z => by rw [z, s8 _ _ upd_same] at nt; cases nt
          refine ⟨upd_at (s8 _ _ upd_same) hdt.symm, [((Sum.inl ((tgt rs r : Nat) : Int) : Key), V.ref t)], rfl, by show 1 ≤ 15; decide, dd, [(tgt rs r, 3, 3)], _, _, rfl, ?_, fun nd9 => ?_, DictAt.one (e := (tgt rs r, 3, 3)) upd_same (upd_at upd_same hdt)⟩
          · exact t7.trans (same_mut (((same_new (o := .dK []) nd).trans s8).trans (same_new (o := .tup [.int 3, .int 3]) nt)) nd)
          · rw [nx_one er nd9 (by rw [hgo]; decide +kernel)]
            unfold edgeOf
            rw [if_pos hgo, hgo, show beatsOf ("go" : Str) = 3 by decide +kernel, if_neg (show ¬ ("go" : Str) = "at" by decide +kernel)]
            exact List.Perm.refl _
        have ngo : r.deed ≠ ("go" : Str) := fun z => c (decide_eq_true (show V.int (att : Int) = V.int 22 by rw [d22.mpr z]; rfl))
        refine ⟨_, rfl, rfl, _, rfl, ite2 (fun c => ?_) (fun c => ?_)⟩
        · have c27 : att = 27 := by have := V.int.inj (of_decide_eq_true c); omega
          have hat2 := d27.mp c27
          refine fun dd nd => ⟨_, rfl, _, _, rfl, rfl, by show 2 ≤ sizeLine; decide, fun t nt => ?_⟩
          have hdt : t ≠ dd := fun z => by rw [z, upd_same] at nt; cases nt
          obtain ⟨k1, k2⟩ := mk H7 (i + 1) 4 5 t7 dd t nd hdt nt
          refine ⟨upd_at upd_same hdt.symm, [((Sum.inl ((i + 1 : Nat) : Int) : Key), V.ref t)], rfl, by show 1 ≤ 15; decide, dd, [(i + 1, 4, 5)], _, _, rfl, k1, fun nd9 => ?_, k2⟩
          rw [nx_one er nd9 (by rw [hat2]; decide +kernel)]
          unfold edgeOf
          rw [if_neg ngo, hat2, show beatsOf ("at" : Str) = 4 by decide +kernel, if_pos rfl]
          exact List.Perm.refl _
        have nat9 : r.deed ≠ ("at" : Str) := fun z => c (decide_eq_true (show V.int (att : Int) = V.int 27 by rw [d27.mpr z]; rfl))
        by_cases cif : dm sIF r.deed = true
        · obtain ⟨i1, i2⟩ := dif.mpr cif
          have nda : r.deed ≠ ("data" : Str) := fun z => by rw [z] at cif; exact absurd cif (by decide +kernel)
          obtain ⟨mm, ev, hm, hm2⟩ := (hok i r er).jump (.inl cif)
          have hnx := (hok i r er).nx nda ngo
          have htg : tgt rs r < rs.length := by rw [tgt_eq ev]; exact mark_lt hm
          have be2 : beatsOf r.deed = 2 := by
            have q := dif_beats r.deed cif
            exact q
          refine ⟨_, rfl, _, _, rfl, rfl, true, congrArg V.bl (decide_eq_true (by omega)), _, _, rfl, rfl, true, congrArg V.bl (decide_eq_true (by omega)), ?_⟩
          refine ⟨_, rfl, _, rfl, p, rs, i, r, mm, rfl, (hp.same s3).same t7, hl, er, ev, hm, fun H8 s8 => ?_⟩
          have epl8 := s8 _ _ (t7 _ _ epl3)
          have ed8 := s8 _ _ ed7
          have et8 := s8 _ _ et7
          have t8 := t7.trans s8
          obtain ⟨cc, hcc⟩ : ∃ cc : Int, cc = (if (!decide (V.int (adrOf b rs (tgt rs r) / 32) = V.int (adrOf b rs (i + 1) / 32))) = true then 1 else 0) := ⟨_, rfl⟩
          have hfar : 3 + cc = farOf b rs i r := by
            unfold farOf cross
            rw [hcc, bl_int]
            by_cases z : adrOf b rs (tgt rs r) / 32 = adrOf b rs (i + 1) / 32
            · rw [if_pos z, decide_eq_true z]; rfl
            · rw [if_neg z, decide_eq_false z]; rfl
          refine ⟨_, rfl, _, rfl, pl, _, _, _, rfl, rfl, sqL epl8, atI_nat (adrs_at htg), _, _, rfl, rfl, ⟨by decide, by decide⟩, _, rfl, _, rfl, _, _, rfl, rfl, pl, _, _, _, rfl, rfl, sqL epl8, atI_nat (j := i + 1) (adrs_at (by omega)), _, _, rfl, rfl, ⟨by decide, by decide⟩, rfl, .inr ⟨_, rfl, ?_⟩⟩
          rw [← hcc]
          refine ⟨_, _, rfl, rfl, ?_⟩
          obtain ⟨far, hfr⟩ : ∃ far : Int, far = farOf b rs i r := ⟨_, rfl⟩
          change gName 10 (V.int (3 + cc)) _ _ _
          rw [hfar, ← hfr]
          refine ⟨_, rfl, _, rfl, by show 2 ≤ sizeLine; decide, fun t1 nt1 => ?_⟩
          have u1 := same_new (o := .tup [.int far, .int far]) nt1
          have et1 : upd H8 t1 (.tup [.int far, .int far]) t1 = some (.tup [.int far, .int far]) := upd_same
          generalize upd H8 t1 (.tup [.int far, .int far]) = H9 at *
          refine ⟨_, rfl, by show 2 ≤ sizeLine; decide, fun t2 nt2 => ?_⟩
          have u2 := same_new (o := .tup [.int 2, .int far]) nt2
          have et2 : upd H9 t2 (.tup [.int 2, .int far]) t2 = some (.tup [.int 2, .int far]) := upd_same
          generalize upd H9 t2 (.tup [.int 2, .int far]) = H10 at *
          refine ⟨by show 2 ≤ sizeLine; decide, fun tl ntl => ?_⟩
          have u3 := same_new (o := .lst [.ref t1, .ref t2]) ntl
          have etl : upd H10 tl (.lst [.ref t1, .ref t2]) tl = some (.lst [.ref t1, .ref t2]) := upd_same
          generalize upd H10 tl (.lst [.ref t1, .ref t2]) = H11 at *
          have t11 := t8.trans ((u1.trans u2).trans u3)
          have et1' := u3 _ _ (u2 _ _ et1)
          have et2' := u3 _ _ et2
          have ed11 := u3 _ _ (u2 _ _ (u1 _ _ ed8))
          have et0' := u3 _ _ (u2 _ _ (u1 _ _ et8))
          have dt : ∀ t xs, H11 t = some (.tup xs) → t ≠ d0 := fun t xs e => ne_of e ed11 (fun z => by cases z)
          have tput : Same H3 (upd H11 d0 (.dK (putK [(Sum.inl ((i + 1 : Nat) : Int), .ref t0)] (Sum.inl ((tgt rs r : Nat) : Int)) (.ref t1)))) := same_mut t11 nd3
          by_cases he : tgt rs r = i + 1
          · refine ⟨_, rfl, _, rfl, _, _, rfl, rfl, rfl, .inr ⟨true, congrArg (fun z => [V.bl z]) (decide_eq_true (by rw [he]; rfl)), tl, _, _, _, rfl, rfl, sqL etl, rfl, ?_⟩⟩
            refine ⟨_, rfl, _, rfl, d0, _, rfl, DPut.k (k := Sum.inl ((tgt rs r : Nat) : Int)) ed11 (szl (by show 1 < 100000; decide)), ?_⟩
            have e9 : putK [((Sum.inl ((i + 1 : Nat) : Int) : Key), V.ref t0)] (Sum.inl ((tgt rs r : Nat) : Int)) (.ref t2) = [(Sum.inl ((i + 1 : Nat) : Int), .ref t2)] := by
              unfold putK
              rw [he]
              simp
            rw [e9]
            refine ⟨d0, [(i + 1, 2, far)], _, _, rfl, same_mut t11 nd3, fun nd9 => ?_, DictAt.one (e := (i + 1, 2, far)) upd_same (upd_at et2' (dt _ _ et2'))⟩
            rw [nx_if er nd9 cif, if_neg (by omega), if_pos he, hfr]
          · refine ⟨_, rfl, _, rfl, _, _, rfl, rfl, rfl, .inr ⟨false, congrArg (fun z => [V.bl z]) (decide_eq_false (fun z => he (by have := V.int.inj z; omega))), tl, _, _, _, rfl, rfl, sqL etl, rfl, ?_⟩⟩
            refine ⟨_, rfl, _, rfl, d0, _, rfl, DPut.k (k := Sum.inl ((tgt rs r : Nat) : Int)) ed11 (szl (by show 1 < 100000; decide)), ?_⟩
            have e8 : valV [((Sum.inl ((i + 1 : Nat) : Int) : Key), V.ref t0)] (Sum.inl ((tgt rs r : Nat) : Int)) = none := (valV_neg (p := ((Sum.inl ((i + 1 : Nat) : Int) : Key), V.ref t0)) (fun z => he (key_eq.mp z).symm)).trans rfl
            rw [putK_new _ e8]
            refine ⟨d0, [(i + 1, 2, 2), (tgt rs r, far, far)], _, _, rfl, same_mut t11 nd3, fun nd9 => ?_, DictAt.two (e := (i + 1, 2, 2)) (f := (tgt rs r, far, far)) upd_same (upd_at (by rw [be2] at et0'; exact et0') (dt _ _ et0')) (upd_at et1' (dt _ _ et1'))⟩
            rw [nx_if er nd9 cif, hfr]
            by_cases z : tgt rs r < i + 1
            · rw [if_pos z]
              exact List.Perm.swap _ _ _
            · rw [if_neg z, if_neg he]
        · have cif2 : dm sIF r.deed = false := by cases w : dm sIF r.deed with
            | true => exact absurd w cif
            | false => rfl
          have nrng : ¬ (22 < att ∧ att < 27) := fun z => cif (dif.mp z)
          have fin : ∃ (dd : Addr) (es : List Edge) (x9' x10' : Option V), [some (V.ref p), some (V.int b), some (V.ref pl), some (V.ref l), some (V.int (i : Int)), some (V.ref a), some (V.int (att : Int)), some (V.int (beatsOf r.deed)), some (V.ref d0), x9, x10] = [some (.ref p), some (.int b), some (.ref pl), some (.ref l), some (.int (i : Int)), some (.ref a), some (.int (att : Int)), some (.int (beatsOf r.deed)), some (.ref dd), x9', x10'] ∧ Same H3 H7 ∧ (r.deed ≠ ("data" : Str) → es.Perm (nxOf b rs i)) ∧ DictAt H7 dd es := by
            refine ⟨d0, [(i + 1, beatsOf r.deed, beatsOf r.deed)], _, _, rfl, t7, fun nd9 => ?_, DictAt.one (e := (i + 1, beatsOf r.deed, beatsOf r.deed)) ed7 et7⟩
            rw [nx_one er nd9 cif2]
            unfold edgeOf
            rw [if_neg ngo, if_neg nat9, Int.add_zero]
          by_cases z1 : 22 < att
          · exact ⟨_, rfl, _, _, rfl, rfl, true, congrArg V.bl (decide_eq_true (by omega)), _, _, rfl, rfl, false, congrArg V.bl (decide_eq_false (by omega)), fin⟩
          · exact ⟨_, rfl, _, _, rfl, rfl, false, congrArg V.bl (decide_eq_false (by omega)), false, rfl, fin⟩
      · rintro σ' H8 ⟨dd, es, x9, x10, rfl, s8, hes, hda⟩
        have el8 := s8 _ _ el3
        refine ⟨_, rfl, .inl ⟨rfl, _, sqL el8⟩, _, rfl, fun d2 nd2 => ?_⟩
        have s9 := s8.trans (same_new (o := .dK []) nd2)
        have hda9 := hda.same (same_new (o := .dK []) nd2)
        have ed2 : upd H8 d2 (.dK []) d2 = some (.dK []) := upd_same
        generalize upd H8 d2 (.dK []) = H9 at *
        refine ⟨by show 2 ≤ sizeLine; decide, fun tl ntl => ?_⟩
        have u1 := same_new (o := .lst [.ref dd, .ref d2]) ntl
        have etl : upd H9 tl (.lst [.ref dd, .ref d2]) tl = some (.lst [.ref dd, .ref d2]) := upd_same
        have s10 := s9.trans u1
        have hda10 := hda9.same u1
        have ed10 := u1 _ _ ed2
        generalize upd H9 tl (.lst [.ref dd, .ref d2]) = H10 at *
        obtain ⟨dz, ez, hz1, hz2, hz3⟩ : ∃ (dz : Addr) (ez : List Edge), atI [V.ref dd, V.ref d2] (if decide (V.int (att : Int) = V.int 30) = true then 1 else 0) = some (.ref dz) ∧ ez.Perm (nxOf b rs i) ∧ DictAt H10 dz ez := by
          by_cases z : r.deed = ("data" : Str)
          · rw [show decide (V.int (att : Int) = V.int 30) = true from eqk (k := 30) (decide_eq_true (d30.mpr z))]
            exact ⟨d2, [], rfl, by rw [nx_data er z], [], ed10, rfl, fun i e z => by simp at z⟩
          · rw [show decide (V.int (att : Int) = V.int 30) = false from eqk (k := 30) (decide_eq_false (fun w => z (d30.mp w)))]
            exact ⟨dd, es, rfl, hes z, hda10⟩
        refine ⟨_, rfl, rfl, .inr ⟨_, rfl, tl, _, _, _, rfl, rfl, sqL etl, hz1, ?_⟩⟩
        have el10 := s10 _ _ el3
        refine ⟨l, _, _, rfl, rfl, el10, by rw [List.length_map]; exact szl (by omega), ?_⟩
        have sfin := same_mut (o := .lst (ds.map V.ref ++ [V.ref dz])) (s3.trans s10) nl0
        refine ⟨ds ++ [dz], _, _, _, _, _, _, _, rfl, sfin, upd_at (s10 _ _ epl3) lpl, by rw [upd_same, List.map_append]; rfl, by rw [List.length_append, len]; rfl, fun j hj => ?_, upd_at (s10 _ _ ep3) (ne_of (s10 _ _ ep3) el10 (fun z => by cases z))⟩
        by_cases hji : j < i
        · obtain ⟨d9, es9, q1, q2, q3⟩ := hds j hji
          exact ⟨d9, es9, by rw [List.getElem?_append_left (by omega)]; exact q1, q2, (q3.same s10).nl (NL.upd el10)⟩
        · have : j = i := by omega
          subst this
          exact ⟨dz, ez, by rw [← len]; simp, hz2, hz3.nl (NL.upd el10)⟩
    · rintro σ H' ⟨ds, x4, x5, x6, x7, x8, x9, x10, rfl, s3, epl3, el3, len, hds, ep3⟩
      refine ⟨_, rfl, q H' l s3 ⟨ds, el3, by omega, fun j hj => hds j (by omega)⟩⟩
end
end B65

end

section
set_option Elab.async false
set_option linter.all false
set_option maxRecDepth 100000
set_option maxHeartbeats 1000000
namespace B65
open PySem PySem.Spec PyProof.Rows L2
section
variable {P : Program} {w : World} {K : PySem.W.Frag} {mg : Str → Option Value} {base : Heap}
theorem beat_bd {dd : Str} (h : dd ≠ ("data" : Str)) : 2 ≤ beatsOf dd ∧ beatsOf dd ≤ 4 := by
  unfold beatsOf
  rw [if_neg h]
  split
  · omega
  · split <;> omega
theorem nx_all {b : Int} {rs : List Row} {n g : Nat} {r : Row} (hn : rs[n]? = some r) (ok : RowOk rs g n r) : (nxOf b rs n).Pairwise (fun x y => x.1 < y.1) ∧ ∀ e ∈ nxOf b rs n, e.1 < g ∧ 2 ≤ e.2.1 ∧ e.2.1 ≤ e.2.2 ∧ e.2.2 ≤ 5 := by
  by_cases hd : r.deed = ("data" : Str)
  · rw [nx_data hn hd]
    exact ⟨List.Pairwise.nil, fun e h => by cases h⟩
  · have bb := beat_bd hd
    have hf := far_le b rs n r
    cases hif : dm sIF r.deed with
    | true =>
      obtain ⟨m, ev, hm, hm2⟩ := ok.jump (.inl hif)
      have ng : r.deed ≠ "go" := fun z => by rw [z] at hif; exact absurd hif (by decide +kernel)
      have hx := ok.nx hd ng
      rw [← tgt_eq ev] at hm2
      rw [nx_if hn hd hif]
      by_cases c1 : tgt rs r < n + 1
      · rw [if_pos c1]
        refine ⟨List.pairwise_cons.mpr ⟨fun x h => by rw [List.mem_singleton.mp h]; exact c1, List.pairwise_singleton _ _⟩, fun e h => ?_⟩
        rcases List.mem_cons.mp h with z | z
        · rw [z]; exact ⟨hm2, by show 2 ≤ farOf b rs n r; omega, Int.le_refl _, by show farOf b rs n r ≤ 5; omega⟩
        · rw [List.mem_singleton.mp z]; exact ⟨hx, Int.le_refl 2, Int.le_refl 2, (by show (2 : Int) ≤ 5; decide)⟩
      · rw [if_neg c1]
        by_cases c2 : tgt rs r = n + 1
        · rw [if_pos c2]
          refine ⟨List.pairwise_singleton _ _, fun e h => ?_⟩
          rw [List.mem_singleton.mp h]
          exact ⟨hx, Int.le_refl 2, by show (2 : Int) ≤ farOf b rs n r; omega, by show farOf b rs n r ≤ 5; omega⟩
        · rw [if_neg c2]
          refine ⟨List.pairwise_cons.mpr ⟨fun x h => by rw [List.mem_singleton.mp h]; show n + 1 < tgt rs r; omega, List.pairwise_singleton _ _⟩, fun e h => ?_⟩
          rcases List.mem_cons.mp h with z | z
          · rw [z]; exact ⟨hx, Int.le_refl 2, Int.le_refl 2, (by show (2 : Int) ≤ 5; decide)⟩
          · rw [List.mem_singleton.mp z]; exact ⟨hm2, by show 2 ≤ farOf b rs n r; omega, Int.le_refl _, by show farOf b rs n r ≤ 5; omega⟩
    | false =>
      rw [nx_one hn hd hif]
      refine ⟨List.pairwise_singleton _ _, fun e h => ?_⟩
      rw [List.mem_singleton.mp h]
      refine ⟨?_, bb.1, ?_, ?_⟩
      · show (if r.deed = "go" then tgt rs r else n + 1) < g
        by_cases c : r.deed = "go"
        · rw [if_pos c]
          obtain ⟨m, ev, hm, hm2⟩ := ok.jump (.inr c)
          rw [tgt_eq ev]
          exact hm2
        · rw [if_neg c]
          exact ok.nx hd c
      · show beatsOf r.deed ≤ beatsOf r.deed + _
        split <;> omega
      · show beatsOf r.deed + _ ≤ 5
        split <;> omega
theorem gra_ok {b : Int} {rs : List Row} {g : Nat} (hl : rs.length ≤ 120) (hg : g ≤ rs.length) (ok : ∀ n r, rs[n]? = some r → RowOk rs g n r) : GraOk (nxOf b rs) rs.length := by
  have at_ : ∀ i, i < rs.length → ∃ r, rs[i]? = some r := fun i h => ⟨_, List.getElem?_eq_getElem h⟩
  refine ⟨⟨fun i hi => ?_, fun i hi e he => ?_⟩, fun i hi => ?_, hl⟩
  · obtain ⟨r, er⟩ := at_ i hi
    have q := (nx_all (b := b) er (ok i r er)).1
    exact up_nodup (List.pairwise_map.mpr q)
  · obtain ⟨r, er⟩ := at_ i hi
    obtain ⟨a, b2, c, d⟩ := (nx_all (b := b) er (ok i r er)).2 e he
    exact ⟨by omega, b2, c, d⟩
  · obtain ⟨r, er⟩ := at_ i hi
    exact List.pairwise_map.mpr (nx_all (b := b) er (ok i r er)).1
/-- the law's own program and steps -/
def LG (H : Hp) (p s : Addr) (rs : List Row) (G : Nat → List Edge) (wt : Nat → Bool) : Prop := ProgAt H p rs ∧ StepsAt H s rs.length G ∧ GraOk G rs.length ∧ Waits rs wt
theorem LG.same {H H' : Hp} {p s : Addr} {rs : List Row} {G : Nat → List Edge} {wt : Nat → Bool} (x : Same H H') (h : LG H p s rs G wt) : LG H' p s rs G wt := ⟨h.1.same x, h.2.1.same x, h.2.2⟩
theorem up_len {G : Nat → List Edge} {n i : Nat} (g : GraOk G n) (hi : i < n) : (G i).length ≤ n := by
  have l2 : ((G i).map (·.1)).length ≤ n := nd_len (g.nd i hi) (fun x hx => by
    obtain ⟨e9, m1, m2⟩ := List.mem_map.mp hx
    exact m2 ▸ (g.ed i hi e9 m1).1)
  rw [List.length_map] at l2
  exact l2
def sp_law_behind (K : PySem.W.Frag) : Sp := fun vs H Q _ => ∃ (p s : Addr) (rs : List Row) (G : Nat → List Edge) (wt : Nat → Bool) (i : Nat) (o : Int), vs = [.ref p, .ref s, .int (i : Int), .int o] ∧ LG H p s rs G wt ∧ i < rs.length ∧ ∀ H' l, Same H H' → H l = none → H' l = some (.lst (nV (bh G wt o i))) → Q (.ref l) H'
theorem sc__law_behind : FnScope ["_law_program", "_law_steps_here", "_law_row", "_law_other", "_law_k"] ["_law_program", "_law_steps_here", "_law_row", "_law_other"] (defScope (topS 82)) := ⟨rfl, rfl, rfl, by decide +kernel, rfl, by decide +kernel, by decide +kernel⟩
theorem ok__law_behind (T : Txt K mg) : Ok P w K mg base 1 "_law_behind" ["_law_program", "_law_steps_here", "_law_row", "_law_other"] (sp_law_behind K) := by
  obtain ⟨fd, F⟩ := T.d__law_behind
  refine ⟨fd, F.ok sc__law_behind (fun vs H Q E h => ?_) (fun cdv A outer s H vs Q E hr h => ?_), F.kp, F.bindsN fun _ _ _ _ _ _ us hl => match us, hl with | [_, _, _, _], _ => rfl⟩
  · obtain ⟨p, s, rs, G, wt, i, o, rfl, _⟩ := h
    rfl
  · obtain ⟨p, s, rs, G, wt, i, o, rfl, hs, hi, q⟩ := h
    have hu := hu_of hr
    refine ⟨_, PSs.nox (pss_cons (ps_if (pt_cmpR op_eq (pv 2) (pv 3) (nomark _))
      (pss_one (ps_ret (pe_lst pa_nil)))
      pss_nil)
      (pss_one (ps_ret (pe_lc (own := [("_law_k", 4)]) rfl sc__law_behind.nd (pi_list (pe_callB cr_sortedI (by rfl) T.z_sorted (by decide +kernel) (pa_cons (pe_callTy (call_list_dK rfl) (by rfl) T.z_list (by decide +kernel) (pa_cons (pe_ix ix_list (pv 1) (pv 2) (fun _ _ => rfl)) pa_nil)) pa_nil))) (blkOk_by (N := ["_law_program", "_law_steps_here", "_law_row", "_law_other", "_law_k"]) (sc := defScope (topS 82)) (by decide +kernel)) (fun _ _ _ _ _ => (pg_name (i := 4) sc__law_behind.nd rfl (by first | exact Or.inl rfl | exact Or.inr rfl))) (fun _ _ _ _ _ => (pts_one (pt_cmpR op_ne (pe_ix (r := rIxT K) ix_tup (pe_ix (r := rIxT K) ix_tup (pv 0) (pv 4) (fun _ _ => rfl)) pe_int (fun _ _ => rfl)) pe_str (nomark _)))) (fun _ _ _ _ _ => (pv 4)))))), ?_⟩
    obtain ⟨hp, a6, a8, hw⟩ := id hs
    have n120 := a8.n120
    refine ⟨_, rfl, _, rfl, rfl, _, rfl, ite2 (fun e => ?_) (fun e => ?_)⟩
    · have e2 : (i : Int) = o := V.int.inj (of_decide_eq_true e)
      refine ⟨Nat.zero_le _, fun l nl => q _ l (same_new nl) nl ?_⟩
      rw [upd_same]
      unfold bh
      rw [if_pos e2]
      rfl
    · have e2 : ¬ (i : Int) = o := fun z => e (decide_eq_true (congrArg V.int z))
      obtain ⟨xs, d, es, h1, h2, h3, h4⟩ := a6.row hi
      obtain ⟨kvs, k1, k2⟩ := h4.keys
      refine ⟨_, rfl, _, rfl, s, _, _, _, rfl, rfl, sqL h1, h2, d, kvs, rfl, k1, fun l nl => ?_⟩
      have s1 := same_new (o := .lst (kvs.map fun kv => kV kv.1)) nl
      have el : upd H l (.lst (kvs.map fun kv => kV kv.1)) l = some (.lst ((iN (es.map (·.1))).map V.int)) := by rw [upd_same, k2]
      generalize upd H l (.lst (kvs.map fun kv => kV kv.1)) = H1 at *
      refine ⟨l, _, rfl, sqL el, fun ns' p9 hp1 hp2 np => ?_⟩
      have en : ns' = iN ((G i).map (·.1)) := sorted_eq (hp1.trans (iN_perm (h3.map (fun (e : Edge) => e.1)))) hp2 (iN_up (a8.up i hi))
      have s2 := same_new (o := .lst (ns'.map V.int)) np
      have ep : upd H1 p9 (.lst (ns'.map V.int)) p9 = some (.lst (nV ((G i).map (·.1)))) := by rw [upd_same, en, nV_iN]
      generalize upd H1 p9 (.lst (ns'.map V.int)) = H2 at *
      have s12 := s1.trans s2
      refine ⟨p9, rfl, ⟨_, sqL ep⟩, fun D nD => ?_⟩
      refine lc_st (walk_list (K := K) (a := p9) (xs := nV ((G i).map (·.1)))) (fun j acc H' => Same H2 H' ∧ acc = nV ((((G i).map (·.1)).take j).filter (fun x => !wt x))) ⟨same_new nD, rfl⟩ (fun j acc _ _ H' _ ⟨s, e⟩ => ⟨same_mut s nD, e⟩) (fun j acc H' _ ⟨s, e⟩ => sqL (s _ _ ep)) (fun j acc H' hj ⟨s, e⟩ => ?_) (fun j x acc H3 H4 hj eD ⟨s, e⟩ ⟨eH, ex⟩ Qy Qn ky kn => ?_) (fun acc H' eD ⟨s, e⟩ => ?_)
      · rw [e, nV_len]
        have l1 : ((((G i).map (·.1)).take j).filter (fun x => !wt x)).length ≤ (G i).length := Nat.le_trans (List.length_filter_le _ _) (by rw [List.length_take, List.length_map]; omega)
        have := up_len a8 hi
        exact szl (by omega)
      · subst eH
        obtain ⟨y, ey, rfl⟩ := nV_get ex
        have ym : y ∈ (G i).map (·.1) := List.mem_of_getElem? ey
        have yl : y < rs.length := by
          obtain ⟨e9, m1, m2⟩ := List.mem_map.mp ym
          exact m2 ▸ (a8.ed i hi e9 m1).1
        obtain ⟨r, er⟩ := row_at yl
        obtain ⟨ys, a, g1, g2, g3⟩ := (hp.same (s12.trans s)).row er
        have et : (((G i).map (·.1)).take (j + 1)) = (((G i).map (·.1)).take j) ++ [y] := by rw [List.take_add_one, ey]; rfl
        refine ⟨rfl, _, rfl, _, rfl, p, _, _, _, rfl, rfl, sqT g1, g2, a, _, _, _, rfl, rfl, sqT g3, at1, rfl, _, rfl, ?_⟩
        rw [bl_str, ← hw y r er]
        cases hwy : wt y with
        | true => exact kn _ eD ⟨s, by rw [et, List.filter_append]; simp [hwy, e]⟩
        | false => exact ⟨_, rfl, ky _ _ eD ⟨s, by rw [et, List.filter_append]; simp [hwy, e, nV_app]; rfl⟩⟩
      · refine q _ D (s12.trans s) (none_of s12 nD) ?_
        rw [eD, e]
        unfold bh
        rw [if_neg e2, nV_len, take_all]
def sp_law_met (K : PySem.W.Frag) : Sp := fun vs H Q _ => ∃ (p s : Addr) (rs : List Row) (G : Nat → List Edge) (wt : Nat → Bool) (st : Nat) (o : Int), vs = [.ref p, .ref s, .int (st : Int), .int o] ∧ LG H p s rs G wt ∧ st < rs.length ∧ ∀ H' d f, Same H H' → H d = none → H' d = some (.dK (dN f)) → MetOk G wt o rs.length st f → Q (.ref d) H'
theorem sc__law_met : FnScope ["_law_program", "_law_steps_here", "_law_first", "_law_other", "_law_found", "_law_waiting", "_law_k", "_law_following"] ["_law_program", "_law_steps_here", "_law_first", "_law_other"] (defScope (topS 83)) := ⟨rfl, rfl, rfl, by decide +kernel, rfl, by decide +kernel, by decide +kernel⟩
theorem ok__law_met (T : Txt K mg) : Ok P w K mg base 2 "_law_met" ["_law_program", "_law_steps_here", "_law_first", "_law_other"] (sp_law_met K) := by
  obtain ⟨fd, F⟩ := T.d__law_met
  obtain ⟨fd_lbehind, G_lbehind, kp_lbehind, b_lbehind⟩ := ok__law_behind (P := P) (w := w) (base := base) T
  refine ⟨fd, F.ok sc__law_met (fun vs H Q E h => ?_) (fun cdv A outer s H vs Q E hr h => ?_), F.kp, F.bindsN fun _ _ _ _ _ _ us hl => match us, hl with | [_, _, _, _], _ => rfl⟩
  · obtain ⟨p, sa, rs, G, wt, s, o, rfl, _⟩ := h
    rfl
  · obtain ⟨p, sa, rs, G, wt, s, o, rfl, hs, hi, q⟩ := h
    have hu := hu_of hr
    refine ⟨_, PSs.nox (pss_cons (ps_set (i := 4) sc__law_met.nd rfl (by first | exact Or.inl rfl | exact Or.inr rfl) (pe_disp (pps_cons (pv 2) (pv 2) pps_nil) (by rfl) (by rfl) (fun z => by cases z) (by decide)))
      (pss_cons (ps_set (i := 5) sc__law_met.nd rfl (by first | exact Or.inl rfl | exact Or.inr rfl) (pe_lst (pa_cons (pv 2) pa_nil)))
      (pss_cons (ps_for PassesOwn.never rfl (pi_range1 (by rfl) T.z_range (pa_cons (pe_callB call_len_seq (by rfl) T.z_len (by decide +kernel) (pa_cons (pv 0) pa_nil)) pa_nil)) (pg_name (i := 6) sc__law_met.nd rfl (by first | exact Or.inl rfl | exact Or.inr rfl))
      (pss_one (ps_if (pt_cmpR op_lt (pv 6) (pe_callB call_len_seq (by rfl) T.z_len (by decide +kernel) (pa_cons (pv 5) pa_nil)) (nomark _))
      (pss_one (ps_for PassesOwn.never rfl (pi_list (pe_call G_lbehind hr (by rfl) T.g__law_behind kp_lbehind b_lbehind .nil pass0 (pa_cons (pv 0) (pa_cons (pv 1) (pa_cons (pe_ix ix_list (pv 5) (pv 6) (fun _ _ => rfl)) (pa_cons (pv 3) pa_nil)))))) (pg_name (i := 7) sc__law_met.nd rfl (by first | exact Or.inl rfl | exact Or.inr rfl))
      (pss_one (ps_if (pt_cmp (pc_dnotin hu (pv 7) (pv 4)))
      (pss_cons (ps_dput hu (pv 4) (pv 7) (pe_ix ix_list (pv 5) (pv 6) (fun _ _ => rfl)) rfl)
      (pss_one (ps_expr (pe_bm PySem.F.plainAttrs_list PySem.F.slot_list_append PySem.F.type_list_append mt_append (pv 5) (pa_cons (pv 7) pa_nil)))))
      pss_nil))))
      pss_nil)))
      (pss_one (ps_ret (pv 4)))))), ?_⟩
    obtain ⟨hp, a6, g, hw⟩ := id hs
    have n120 := g.n120
    refine fun d nd => ⟨_, rfl, _, rfl, upd_same, [((Sum.inl (s : Int) : Key), V.int (s : Int))], rfl, by show 1 ≤ 15; decide, ?_⟩
    have sd := same_mut (o := .dK (mergeK [] [((Sum.inl (s : Int) : Key), V.int (s : Int))])) (same_new (o := .dK []) nd) nd
    have ed : upd (upd H d (.dK [])) d (.dK (mergeK [] [((Sum.inl (s : Int) : Key), V.int (s : Int))])) d = some (.dK (dN [(s, (s : Int))])) := upd_same
    generalize upd (upd H d (.dK [])) d (.dK (mergeK [] [((Sum.inl (s : Int) : Key), V.int (s : Int))])) = H1 at *
    refine ⟨_, rfl, by show 1 ≤ sizeLine; decide, fun l nl => ?_⟩
    have nl0 := none_of sd nl
    have sl := sd.trans (same_new (o := .lst [V.int (s : Int)]) nl)
    have hld : d ≠ l := ne_of_none ed nl
    have ed2 : upd H1 l (.lst [V.int (s : Int)]) d = some (.dK (dN [(s, (s : Int))])) := by rw [upd_ne hld]; exact ed
    have el2 : upd H1 l (.lst [V.int (s : Int)]) l = some (.lst (nV (ks [(s, (s : Int))]))) := upd_same
    generalize upd H1 l (.lst [V.int (s : Int)]) = H2 at *
    obtain ⟨xs, w1, w2, w3⟩ := (hp.same sl).walk
    refine ⟨_, rfl, p, _, rfl, .inr (sqT w1), _, rfl, by omega, by omega, for_it walk_rng (fun k σ H' => ∃ (f : List (Nat × Int)) (x6 x7 : Option V), σ = [some (.ref p), some (.ref sa), some (.int (s : Int)), some (.int o), some (.ref d), some (.ref l), x6, x7] ∧ Same H H' ∧ H' d = some (.dK (dN f)) ∧ H' l = some (.lst (nV (ks f))) ∧ MetIn G wt o rs.length s (min k f.length) f)
      ⟨_, none, none, rfl, sl, ed2, el2, by rw [Nat.zero_min]; exact MetIn.start hi⟩ (fun _ _ _ _ _ => trivial) ?_ ?_⟩
    · clear ed2 el2
      rintro k xv σ H9 H3 hk9 ⟨f, x6, x7, rfl, s3, ed3, el3, mi⟩ ⟨rfl, rfl⟩
      refine ⟨_, rfl, _, rfl, l, _, rfl, .inl (sqL el3), _, _, rfl, rfl, _, rfl, ite2 (fun e => ?_) (fun e => ?_)⟩
      · have hk : k < f.length := by
          have := of_decide_eq_true e
          rw [nV_len, ks_len] at this
          omega
        rw [Nat.min_eq_left (Nat.le_of_lt hk)] at mi
        obtain ⟨x, hx⟩ : ∃ x, (ks f)[k]? = some x := ⟨(ks f)[k]'(by rw [ks_len]; exact hk), List.getElem?_eq_getElem _⟩
        have hxn := mi.lt x (List.mem_of_getElem? hx)
        refine ⟨_, rfl, _, rfl, _, rfl, _, rfl, l, _, _, _, rfl, rfl, sqL el3, atI_nat (nV_at hx), _, rfl, p, sa, rs, G, wt, x, o, rfl, hs.same s3, hxn, fun H4 bl s4 nb eb => ?_⟩
        have hbd : bl ≠ d := fun z => by rw [z, ed3] at nb; cases nb
        have hbl : bl ≠ l := fun z => by rw [z, el3] at nb; cases nb
        refine ⟨bl, rfl, ⟨_, sqL eb⟩, for_it (walk_list (K := K) (a := bl) (xs := nV (bh G wt o x))) (fun j σ H' => ∃ (f : List (Nat × Int)) (x7 : Option V), σ = [some (.ref p), some (.ref sa), some (.int (s : Int)), some (.int o), some (.ref d), some (.ref l), some (.int (k : Int)), x7] ∧ Same H H' ∧ H' d = some (.dK (dN f)) ∧ H' l = some (.lst (nV (ks f))) ∧ MetIn G wt o rs.length s k f ∧ (ks f)[k]? = some x ∧ (∀ y ∈ (bh G wt o x).take j, y ∈ ks f) ∧ H' bl = some (.lst (nV (bh G wt o x))))
          ⟨f, x7, rfl, s3.trans s4, s4 _ _ ed3, s4 _ _ el3, mi, hx, fun y hy => by simp at hy, eb⟩ (fun j σ H' _ ⟨_, _, _, _, _, _, _, _, _, e⟩ => sqL e) ?_ ?_⟩
        · clear mi hx ed3 el3 hk e
          rintro j yv σ H5 H' hj ⟨f, x7, rfl, s5, ed5, el5, mi, hx, hall, eb5⟩ ⟨rfl, eyv⟩
          obtain ⟨y, ey, rfl⟩ := nV_get eyv
          have hy := List.mem_of_getElem? ey
          have hyn := bh_lt g hxn hy
          have et : (bh G wt o x).take (j + 1) = (bh G wt o x).take j ++ [y] := by rw [List.take_add_one, ey]; rfl
          refine ⟨_, rfl, _, rfl, d, _, rfl, dgN ed5 y, ?_⟩
          cases q5 : lk f y with
          | some v =>
            refine ⟨false, rfl, f, _, rfl, s5, ed5, el5, mi, hx, fun z hz => ?_, eb5⟩
            rw [et] at hz
            rcases List.mem_append.mp hz with e9 | e9
            · exact hall z e9
            · rw [List.mem_singleton.mp e9]
              exact lk_ks q5
          | none =>
            have ny := lk_none.mp q5
            have mi2 := mi.add hx hy ny hyn
            have lf := mi.len
            refine ⟨true, rfl, _, rfl, _, rfl, l, _, _, _, rfl, rfl, sqL el5, atI_nat (nV_at hx), _, rfl, _, rfl, d, _, rfl, dpN ed5 mi.nd (by omega) y (x : Int), ?_⟩
            rw [pu_new ny]
            have s6 := same_mut (o := .dK (dN (f ++ [(y, (x : Int))]))) s5 nd
            have ed6 : upd H' d (.dK (dN (f ++ [(y, (x : Int))]))) d = some (.dK (dN (f ++ [(y, (x : Int))]))) := upd_same
            have el6 : upd H' d (.dK (dN (f ++ [(y, (x : Int))]))) l = some (.lst (nV (ks f))) := upd_at el5 hld.symm
            have eb6 : upd H' d (.dK (dN (f ++ [(y, (x : Int))]))) bl = some (.lst (nV (bh G wt o x))) := upd_at eb5 hbd
            generalize upd H' d (.dK (dN (f ++ [(y, (x : Int))]))) = H6 at *
            refine ⟨_, rfl, .inl ⟨rfl, _, sqL el6⟩, _, rfl, l, _, _, rfl, rfl, el6, by rw [nV_len, ks_len]; exact szl (by omega), ?_⟩
            have ek : ks (f ++ [(y, (x : Int))]) = ks f ++ [y] := List.map_append ..
            refine ⟨f ++ [(y, (x : Int))], _, rfl, same_mut s6 nl0, upd_at ed6 hld, by rw [upd_same, ek, nV_app]; rfl, mi2, ?_, fun z hz => ?_, upd_at eb6 hbl⟩
            · rw [ek, List.getElem?_append_left (List.getElem?_eq_some_iff.mp hx).1]
              exact hx
            · rw [et] at hz
              rw [ek]
              rcases List.mem_append.mp hz with e9 | e9
              · exact List.mem_append.mpr (.inl (hall z e9))
              · exact List.mem_append.mpr (.inr e9)
        · clear mi hx ed3 el3 hk e
          rintro σ H' ⟨f, x7, rfl, s5, ed5, el5, mi, hx, hall, eb5⟩
          rw [nV_len, take_all] at hall
          have hkf := (List.getElem?_eq_some_iff.mp hx).1
          rw [ks_len] at hkf
          refine ⟨f, _, x7, rfl, s5, ed5, el5, ?_⟩
          rw [Nat.min_eq_left (by omega)]
          refine ⟨mi.nd, mi.hd, mi.lt, mi.pr, fun i z hi e8 y hy => ?_, by omega⟩
          by_cases e9 : i = k
          · subst e9
            rw [hx] at e8
            cases e8
            exact hall y hy
          · exact mi.cl i z (by omega) e8 y hy
      · have hk : f.length ≤ k := by
          by_cases z : k < f.length
          · exact absurd (decide_eq_true (show (k : Int) < ((nV (ks f)).length : Int) by rw [nV_len, ks_len]; omega)) e
          · omega
        refine ⟨f, _, x7, rfl, s3, ed3, el3, ?_⟩
        rw [Nat.min_eq_right (by omega)] at mi ⊢
        exact mi
    · rintro σ H3 ⟨f, x6, x7, rfl, s3, ed3, el3, mi⟩
      have := mi.len
      rw [Nat.min_eq_right (by omega)] at mi
      exact ⟨_, rfl, q _ d f s3 nd ed3 ⟨mi⟩⟩
end
end B65

end

section
set_option Elab.async false
set_option linter.all false
set_option maxRecDepth 100000
set_option maxHeartbeats 1000000
namespace B65
open PySem PySem.Spec PyProof.Rows L2
section
variable {P : Program} {w : World} {K : PySem.W.Frag} {mg : Str → Option Value} {base : Heap}
theorem lay_ints : ∀ l : List Nat, PyData.canLayAll0 (l.map fun (x : Nat) => PyData.int (x : Int)) = true
  | [] => rfl
  | _ :: r => by simp [PyData.canLayAll0, PyData.canLay0, lay_ints r]
theorem dep_ints : ∀ l : List Nat, PyData.depthAll (l.map fun (x : Nat) => PyData.int (x : Int)) = 0
  | [] => rfl
  | _ :: r => by simp [PyData.depthAll, PyData.depth, dep_ints r]
theorem shp_ints (l : List Nat) : SeqAt.shaped (.list (l.map fun (x : Nat) => PyData.int (x : Int))) = true := by
  simp [SeqAt.shaped, PyData.canLay0, PyData.depth, lay_ints, dep_ints]
theorem dpAllN {H : Hp} : ∀ l : List Nat, DpAll K H (nV l) (l.map fun (x : Nat) => PyData.int (x : Int))
  | [] => .nil
  | x :: r => .cons (.int _) (dpAllN r)
theorem dpN_ {H : Hp} {a : Addr} {l : List Nat} (h : H a = some (.lst (nV l))) : Dp K H (.ref a) (.list (l.map fun (x : Nat) => PyData.int (x : Int))) := .lst (sqL h) (dpAllN l)
theorem dp0 {H : Hp} {a : Addr} (h : H a = some (.lst [])) : Dp K H (.ref a) (.list []) := .lst (sqL h) .nil
theorem eqv_nil (l : List Nat) : PyData.eqv (.list (l.map fun (x : Nat) => PyData.int (x : Int))) (.list []) = decide (l = []) := by
  cases l with
  | nil => rfl
  | cons x r => rfl
/-- a list told empty or not -/
theorem eq_nil {H : Hp} {Q : VK} {a b : Addr} {l : List Nat} (h : H a = some (.lst (nV l))) (h2 : H b = some (.lst [])) (q : Q (.bl (decide (l = []))) H) : rEqD K (.ref a) (.ref b) H Q := ⟨_, _, dpN_ h, dp0 h2, shp_ints l, by decide +kernel, by rw [eqv_nil]; exact q⟩
theorem ne_nil {H : Hp} {Q : VK} {a b : Addr} {l : List Nat} (h : H a = some (.lst (nV l))) (h2 : H b = some (.lst [])) (q : Q (.bl (!decide (l = []))) H) : rNeD K (.ref a) (.ref b) H Q := ⟨_, _, dpN_ h, dp0 h2, shp_ints l, by decide +kernel, by rw [eqv_nil]; exact q⟩
def sp_law_way (K : PySem.W.Frag) : Sp := fun vs H Q _ => ∃ (p sa : Addr) (rs : List Row) (G : Nat → List Edge) (wt : Nat → Bool) (s e : Nat) (o : Int), vs = [.ref p, .ref sa, .int (s : Int), .int (e : Int), .int o] ∧ LG H p sa rs G wt ∧ s < rs.length ∧ Rc G wt o s e ∧ ∀ H' l w, Same H H' → H l = none → H' l = some (.lst (nV w)) → Wk G wt o rs.length s e w → Q (.ref l) H'
theorem sc__law_way : FnScope ["_law_program", "_law_steps_here", "_law_first", "_law_end_here", "_law_other", "_law_ahead", "_law_found"] ["_law_program", "_law_steps_here", "_law_first", "_law_end_here", "_law_other"] (defScope (topS 84)) := ⟨rfl, rfl, rfl, by decide +kernel, rfl, by decide +kernel, by decide +kernel⟩
theorem ok__law_way (T : Txt K mg) : Ok P w K mg base 3 "_law_way" ["_law_program", "_law_steps_here", "_law_first", "_law_end_here", "_law_other"] (sp_law_way K) := by
  obtain ⟨fd, F⟩ := T.d__law_way
  obtain ⟨fd_lmet, G_lmet, kp_lmet, b_lmet⟩ := ok__law_met (P := P) (w := w) (base := base) T
  refine ⟨fd, F.ok sc__law_way (fun vs H Q E h => ?_) (fun cdv A outer s H vs Q E hr h => ?_), F.kp, F.bindsN fun _ _ _ _ _ _ us hl => match us, hl with | [_, _, _, _, _], _ => rfl⟩
  · obtain ⟨p, sa, rs, G, wt, s, e, o, rfl, _⟩ := h
    rfl
  · obtain ⟨p, sa, rs, G, wt, s, e, o, rfl, hs, hi, hrc, q⟩ := h
    have hu := hu_of hr
    refine ⟨_, PSs.nox (pss_cons (ps_set (i := 5) sc__law_way.nd rfl (by first | exact Or.inl rfl | exact Or.inr rfl) (pe_call G_lmet hr (by rfl) T.g__law_met kp_lmet b_lmet .nil pass0 (pa_cons (pv 0) (pa_cons (pv 1) (pa_cons (pv 2) (pa_cons (pv 4) pa_nil))))))
      (pss_cons (ps_set (i := 6) sc__law_way.nd rfl (by first | exact Or.inl rfl | exact Or.inr rfl) (pe_lst (pa_cons (pv 3) pa_nil)))
      (pss_cons (ps_while PassesOwn.never (pt_cmpR op_ne (pe_ix ix_list (pv 6) (pe_un un_neg pe_int) (fun _ _ => rfl)) (pv 2) (nomark _))
      (pss_one (ps_expr (pe_bm PySem.F.plainAttrs_list PySem.F.slot_list_append PySem.F.type_list_append mt_append (pv 6) (pa_cons (pe_dget hu (pv 5) (pe_ix ix_list (pv 6) (pe_un un_neg pe_int) (fun _ _ => rfl)) (fun _ _ => rfl)) pa_nil)))))
      (pss_one (ps_ret (R65.pe_lstRev rfl (by rfl) T.z_list (by rfl) T.z_reversed (pv 6))))))), ?_⟩
    obtain ⟨hp, a6, g, hw⟩ := id hs
    have n120 := g.n120
    refine ⟨_, rfl, _, rfl, _, rfl, _, rfl, p, sa, rs, G, wt, s, o, rfl, hs, hi, fun H1 d f s1 nd ed mo => ?_⟩
    refine ⟨_, rfl, by show 1 ≤ sizeLine; decide, fun l nl => ?_⟩
    have nl0 := none_of s1 nl
    have s2 := s1.trans (same_new (o := .lst [V.int (e : Int)]) nl)
    have hld : d ≠ l := ne_of_none ed nl
    have ed2 : upd H1 l (.lst [V.int (e : Int)]) d = some (.dK (dN f)) := by rw [upd_ne hld]; exact ed
    have el2 : upd H1 l (.lst [V.int (e : Int)]) l = some (.lst (nV [e])) := upd_same
    generalize upd H1 l (.lst [V.int (e : Int)]) = H2 at *
    obtain ⟨i0, hi0, ei0⟩ := List.mem_iff_getElem.mp ((mo.rc e).mpr hrc)
    have ei1 : (ks f)[i0]? = some e := by rw [List.getElem?_eq_getElem hi0, ei0]
    have lf := mo.len
    rw [ks_len] at hi0
    obtain ⟨W, hW⟩ : ∃ W : Nat → L2.St → Hp → Prop, W = fun m σ H' => ∃ (c : List Nat) (x : Nat), σ = [some (.ref p), some (.ref sa), some (.int (s : Int)), some (.int (e : Int)), some (.int o), some (.ref d), some (.ref l)] ∧ Same H H' ∧ H' d = some (.dK (dN f)) ∧ H' l = some (.lst (nV c)) ∧ Bk (fun x y => y ∈ bh G wt o x) e x c ∧ (ks f)[m]? = some x ∧ c.length + m ≤ rs.length ∧ ∀ z ∈ c, z < rs.length := ⟨_, rfl⟩
    refine ⟨W, ⟨i0, by rw [hW]; exact ⟨[e], e, rfl, s2, ed2, el2, Bk.start e, ei1, by show 1 + i0 ≤ _; omega, fun z hz => by rw [List.mem_singleton.mp hz]; exact mo.lt e (List.mem_of_getElem? ei1)⟩⟩, fun m σ H3 hw => ?_⟩
    have hw2 := hw
    rw [hW] at hw2
    obtain ⟨c, x, rfl, s3, ed3, el3, bk, hx, hlen, hlt⟩ := hw2
    refine ⟨_, rfl, 1, rfl, l, _, _, _, rfl, rfl, sqL el3, at_last bk.last, _, rfl, rfl, _, rfl, ?_⟩
    rw [ne_bl]
    refine ite2 (fun e9 => ?_) (fun e9 => ?_)
    · have hxs : x ≠ s := by simpa using e9
      refine ⟨fun σ' H' => ∃ m', m' < m ∧ W m' σ' H', fun σ' H' h => h, ?_⟩
      obtain ⟨j, y, v, q1, q2, q3, q4, q5⟩ : ∃ (j y : Nat) (v : Int), j < m ∧ (ks f)[j]? = some y ∧ v = (y : Int) ∧ x ∈ bh G wt o y ∧ lk f x = some v := by
        match m, hx with
        | 0, hx =>
          unfold ks at hx
          rw [List.getElem?_map, mo.hd] at hx
          cases hx
          exact absurd rfl hxs
        | m + 1, hx =>
          have hx0 := hx
          unfold ks at hx
          rw [List.getElem?_map] at hx
          cases q : f[m + 1]? with
          | none => rw [q] at hx; cases hx
          | some p =>
            rw [q] at hx
            cases hx
            obtain ⟨j, y, j1, j2, j3, j4⟩ := mo.pr m p.1 p.2 q
            exact ⟨j, y, p.2, by omega, j2, j3, j4, lk_of mo.nd (List.mem_of_getElem? q)⟩
      subst q3
      refine ⟨_, rfl, .inl ⟨rfl, _, sqL el3⟩, _, rfl, _, rfl, 1, rfl, l, _, _, _, rfl, rfl, sqL el3, at_last bk.last, d, _, rfl, dgS ed3 q5, l, _, _, rfl, rfl, el3, by rw [nV_len]; exact szl (by omega), ?_⟩
      refine ⟨j, q1, ?_⟩
      rw [hW]
      refine ⟨c ++ [y], y, rfl, same_mut s3 nl0, upd_at ed3 hld, by rw [upd_same, nV_app]; rfl, bk.add q4, q2, by rw [List.length_append]; show c.length + 1 + j ≤ _; omega, fun z hz => ?_⟩
      rcases List.mem_append.mp hz with z1 | z1
      · exact hlt z z1
      · rw [List.mem_singleton.mp z1]
        exact mo.lt y (List.mem_of_getElem? q2)
    · have hxs : x = s := by simpa using e9
      subst hxs
      obtain ⟨r1, r2, r3⟩ := bk.rev
      refine ⟨_, rfl, l, _, rfl, sqL el3, fun p np => q _ p c.reverse (s3.trans (same_new np)) (none_of s3 np) ?_ ⟨r1, r2, r3, fun z hz => hlt z (List.mem_reverse.mp hz), by rw [List.length_reverse]; omega⟩⟩
      rw [upd_same, nV_rev]
theorem rc_other {G : Nat → List Edge} {wt : Nat → Bool} {other one x : Nat} (h : Rc G wt (-1) one x) : Rc G wt (other : Int) one x ∨ Rc G wt (other : Int) one other := by
  induction h with
  | refl => exact .inl .refl
  | step h1 h2 ih =>
    rename_i w y
    rcases ih with z | z
    · by_cases e : w = other
      · rw [e] at z
        exact .inr z
      · obtain ⟨_, b2, b3⟩ := bh_mem.mp h2
        exact .inl (.step z (bh_mem.mpr ⟨by omega, b2, b3⟩))
    · exact .inr z
theorem rc_self {G : Nat → List Edge} {wt : Nat → Bool} {other one : Nat} (h : Rc G wt (-1) one other) : Rc G wt (other : Int) one other := (rc_other (other := other) h).elim id id
theorem perm_nat : ∀ {a : List Int} {b : List Nat}, a.Perm (iN b) → ∃ c : List Nat, a = iN c ∧ c.Perm b := by
  intro a b h
  refine ⟨a.map Int.toNat, ?_, ?_⟩
  · unfold iN
    rw [List.map_map]
    have : ∀ x ∈ a, (fun (x : Nat) => (x : Int)) (Int.toNat x) = x := fun x hx => by
      obtain ⟨y, _, e⟩ := List.mem_map.mp (h.mem_iff.mp hx)
      show ((x.toNat : Nat) : Int) = x
      rw [← e]
      rfl
    exact ((List.map_congr_left this).trans (List.map_id _)).symm
  · have q := h.map Int.toNat
    have e : (iN b).map Int.toNat = b := by
      unfold iN
      rw [List.map_map]
      exact (List.map_congr_left (fun x _ => rfl)).trans (List.map_id _)
    rw [e] at q
    exact q
def PairOk (rs : List Row) (G : Nat → List Edge) (wt : Nat → Bool) (one other : Nat) : Prop := Ends rs one other ∧ Rc G wt (other : Int) one other
def sp_law_pair (K : PySem.W.Frag) : Sp := fun vs H Q _ => ∃ (d p s : Addr) (rs : List Row) (G : Nat → List Edge) (wt : Nat → Bool) (g : Nat), vs = [.ref d, .ref p, .ref s] ∧ DeckAt H d ∧ LG H p s rs G wt ∧ (∀ i e, i < rs.length → e ∈ G i → e.1 < g) ∧ (∀ (i : Nat) (r : Row), i < g → rs[i]? = some r → r.deed ≠ ("data" : Str)) ∧ (∃ r, rs[g - 1]? = some r ∧ r.deed = ("go" : Str)) ∧
  ∀ H' v, SB d H H' → DeckAt H' d → (v = .non ∨ ∃ (t : Addr) (one other : Nat), v = .ref t ∧ H' t = some (.tup [.int (one : Int), .int (other : Int)]) ∧ PairOk rs G wt one other) → Q v H'
theorem sc__law_pair : FnScope ["_law_deck_here", "_law_program", "_law_steps_here", "_law_goers", "_law_one", "_law_others", "_law_k", "_law_row"] ["_law_deck_here", "_law_program", "_law_steps_here"] (defScope (topS 85)) := ⟨rfl, rfl, rfl, by decide +kernel, rfl, by decide +kernel, by decide +kernel⟩
theorem ok__law_pair (T : Txt K mg) : Ok P w K mg base 3 "_law_pair" ["_law_deck_here", "_law_program", "_law_steps_here"] (sp_law_pair K) := by
  obtain ⟨fd, F⟩ := T.d__law_pair
  obtain ⟨fd_lnext, G_lnext, kp_lnext, b_lnext⟩ := ok__law_next (P := P) (w := w) (base := base) T
  obtain ⟨fd_lmet, G_lmet, kp_lmet, b_lmet⟩ := ok__law_met (P := P) (w := w) (base := base) T
  refine ⟨fd, F.ok sc__law_pair (fun vs H Q E h => ?_) (fun cdv A outer s H vs Q E hr h => ?_), F.kp, F.bindsN fun _ _ _ _ _ _ us hl => match us, hl with | [_, _, _], _ => rfl⟩
  · obtain ⟨d, p, s, rs, G, wt, g, rfl, _⟩ := h
    rfl
  · obtain ⟨d, p, s, rs, G, wt, g, rfl, hd, hs, hg, hdt, hgo, q⟩ := h
    have hu := hu_of hr
    refine ⟨_, PSs.nox (pss_cons (ps_setLc (i := 3) (own := [("_law_k", 6), ("_law_row", 7)]) rfl sc__law_pair.nd rfl rfl (sw_true rfl rfl rfl (by decide +kernel)) (R65.pi_enumT (by rfl) T.z_enumerate (pa_cons (pv 1) pa_nil)) (blkOk_by (N := ["_law_deck_here", "_law_program", "_law_steps_here", "_law_goers", "_law_one", "_law_others", "_law_k", "_law_row"]) (sc := defScope (topS 85)) (by decide +kernel)) (fun _ _ _ _ _ => (R65.pg_tupK (K := K) (n := 2) rfl rfl (pgs_cons (pg_name (i := 6) sc__law_pair.nd rfl (by first | exact Or.inl rfl | exact Or.inr rfl)) (pgs_cons (pg_name (i := 7) sc__law_pair.nd rfl (by first | exact Or.inl rfl | exact Or.inr rfl)) pgs_nil)))) (fun _ _ _ _ _ => (pts_one (pt_cmpR (r := rIn K true) op_notIn_seq (pe_ix (r := rIxT K) ix_tup (pv 7) pe_int (fun _ _ => rfl)) (pe_lst (pa_cons pe_str (pa_cons pe_str pa_nil))) (by rfl)))) (fun _ _ _ _ _ => (pv 6)))
      (pss_cons (ps_set (i := 4) sc__law_pair.nd rfl (by first | exact Or.inl rfl | exact Or.inr rfl) (pe_ix ix_list (pv 3) (pe_op op_mod (pe_call G_lnext (hr.mono (by decide)) (by rfl) T.g__law_next kp_lnext b_lnext .nil pass0 (pa_cons (pv 0) pa_nil)) (pe_callB call_len_seq (by rfl) T.z_len (by decide +kernel) (pa_cons (pv 3) pa_nil))) (fun _ _ => rfl)))
      (pss_cons (ps_setLc (i := 5) (own := [("_law_k", 6)]) rfl sc__law_pair.nd rfl rfl (sw_true rfl rfl rfl (by decide +kernel)) (pi_list (pe_callB cr_sortedI (by rfl) T.z_sorted (by decide +kernel) (pa_cons (pe_callTy (call_list_dK rfl) (by rfl) T.z_list (by decide +kernel) (pa_cons (pe_call G_lmet hr (by rfl) T.g__law_met kp_lmet b_lmet .nil pass0 (pa_cons (pv 1) (pa_cons (pv 2) (pa_cons (pv 4) (pa_cons (pe_un un_neg pe_int) pa_nil))))) pa_nil)) pa_nil))) (blkOk_by (N := ["_law_deck_here", "_law_program", "_law_steps_here", "_law_goers", "_law_one", "_law_others", "_law_k", "_law_row"]) (sc := defScope (topS 85)) (by decide +kernel)) (fun _ _ _ _ _ => (pg_name (i := 6) sc__law_pair.nd rfl (by first | exact Or.inl rfl | exact Or.inr rfl))) (fun _ _ _ _ _ => (pts_one (pt_cmpR op_ne (pv 6) (pv 4) (nomark _)))) (fun _ _ _ _ _ => (pv 6)))
      (pss_cons (ps_if (pt_cmpR (op_eqD hr.units) (pv 5) (pe_lst pa_nil) (nomark _))
      (pss_one (ps_ret pe_non))
      pss_nil)
      (pss_one (ps_ret (pe_tup (pa_cons (pv 4) (pa_cons (pe_ix ix_list (pv 5) (pe_op op_mod (pe_call G_lnext (hr.mono (by decide)) (by rfl) T.g__law_next kp_lnext b_lnext .nil pass0 (pa_cons (pv 0) pa_nil)) (pe_callB call_len_seq (by rfl) T.z_len (by decide +kernel) (pa_cons (pv 5) pa_nil))) (fun _ _ => rfl)) pa_nil))))))))), ?_⟩
    obtain ⟨hp, a6, gr, hw⟩ := id hs
    have n120 := gr.n120
    obtain ⟨xs, h1, h2, h3⟩ := hp.walk
    refine ⟨_, rfl, p, _, rfl, sqT h1, fun D nD => ?_⟩
    refine lc_st (walk_enumT (K := K) (a := p) (xs := xs)) (fun i acc H' => Same H H' ∧ ∃ l : List Nat, acc = nV l ∧ l.length ≤ i ∧ (∀ x ∈ l, ∃ r, rs[x]? = some r ∧ r.deed ≠ ("wait" : Str) ∧ r.deed ≠ ("data" : Str)) ∧ (g - 1 < i → 0 < l.length)) ⟨same_new nD, [], rfl, Nat.le_refl _, (fun x hx => by cases hx), fun h => absurd h (by omega)⟩ (fun i acc _ _ H' _ ⟨s, e⟩ => ⟨same_mut s nD, e⟩) (fun i acc H' _ ⟨s, e⟩ => sqT (s _ _ h1)) (fun i acc H' hi ⟨s, l, e, e2, _⟩ => by rw [e, nV_len]; exact szl (by omega)) (fun i xv acc H1 H2 hi eD ⟨s1, l, e, e2, e3, e4⟩ ⟨T9, y1, y2, ex, nT, eH, e5, e6⟩ Qy Qn ky kn => ?_) (fun acc H1 eD ⟨s1, l, e, e2, e3, e4⟩ => ?_)
    · subst eH
      cases e5
      obtain ⟨r, a, e1, rfl, ha⟩ := h3 i y2 e6
      have t2 := same_new (o := .tup [.int ((i : Nat) : Int), .ref a]) nT
      have eT : upd H1 T9 (.tup [.int ((i : Nat) : Int), .ref a]) T9 = some (.tup [.int ((i : Nat) : Int), .ref a]) := upd_same
      generalize upd H1 T9 (.tup [.int ((i : Nat) : Int), .ref a]) = H2 at *
      have s2 := s1.trans t2
      refine ⟨T9, _, ex, sqT eT, rfl, _, _, rfl, _, _, rfl, rfl, rfl, ?_⟩
      refine ⟨_, rfl, a, _, _, _, rfl, rfl, sqT (s2 _ _ ha), at1, by show 2 ≤ sizeLine; decide, fun wl nwl => ?_⟩
      have s3 := s2.trans (same_new (o := .lst [.str ("wait" : Str), .str ("data" : Str)]) nwl)
      have e3' : upd H2 wl (.lst [.str ("wait" : Str), .str ("data" : Str)]) wl = some (.lst ((["wait", "data"] : List Str).map V.str)) := upd_same
      have eD3 := same_new (o := .lst [.str ("wait" : Str), .str ("data" : Str)]) nwl _ _ (t2 _ _ eD)
      generalize upd H2 wl (.lst [.str ("wait" : Str), .str ("data" : Str)]) = H3 at *
      refine ⟨wl, _, rfl, .inl (sqL e3'), rfl, flat_strs _, _, rfl, ?_⟩
      rw [show (if true = true then !inV (V.str r.deed) (List.map V.str ["wait", "data"]) else inV (V.str r.deed) (List.map V.str ["wait", "data"])) = !(["wait", "data"] : List Str).any (fun y => y == r.deed) from congrArg not (inV_str r.deed _)]
      refine ite2 (fun z => ?_) (fun z => ?_)
      · have z2 : ¬ ("wait" : Str) = r.deed ∧ ¬ ("data" : Str) = r.deed := by simpa using z
        refine ⟨_, rfl, ky _ _ eD3 ⟨s3, l ++ [i], by rw [e, nV_app]; rfl, by rw [List.length_append]; exact Nat.succ_le_succ e2, fun x hx => ?_, fun _ => by rw [List.length_append]; exact Nat.succ_pos _⟩⟩
        rcases List.mem_append.mp hx with w | w
        · exact e3 x w
        · rw [List.mem_singleton.mp w]
          exact ⟨r, e1, fun y => z2.1 y.symm, fun y => z2.2 y.symm⟩
      · refine kn _ eD3 ⟨s3, l, e, by omega, e3, fun h => ?_⟩
        by_cases w : g - 1 < i
        · exact e4 w
        · have : g - 1 = i := by omega
          obtain ⟨r9, q1, q2⟩ := hgo
          rw [this, e1] at q1
          cases q1
          rw [q2] at z
          exact absurd (by decide +kernel) z
    · obtain ⟨r9, q1, q2⟩ := hgo
      have g1 := (List.getElem?_eq_some_iff.mp q1).1
      have lpos := e4 (by omega)
      subst e
      have neD := hd.ne nD
      have hd1 := hd.same s1
      refine ⟨_, rfl, _, rfl, d, rfl, hd1, fun H2 x s2 hd2 => ?_⟩
      have b2 := (SB.of (d := d) s1).trans s2
      have eD2 := s2.lst neD eD
      obtain ⟨j, j1, j2⟩ := mod_lt_len (x := x) lpos
      have hone := List.getElem_mem j2
      have eone : l[j]? = some l[j] := List.getElem?_eq_getElem j2
      generalize l[j] = one at *
      obtain ⟨r1, er1, nw1, nd1⟩ := e3 one hone
      have h1n := (List.getElem?_eq_some_iff.mp er1).1
      refine ⟨_, rfl, D, _, rfl, .inl (sqL eD2), _, _, rfl, rfl, (by show (0 : Int) < ((nV l).length : Int); rw [nV_len]; omega), D, _, _, _, rfl, rfl, sqL eD2, (by show atI (nV l) (x % ((nV l).length : Int)) = _; rw [nV_len, j1]; exact atI_nat (nV_at eone)), ?_⟩
      have sbs : ∀ {H'}, SB d H H' → LG H' p s rs G wt := fun {H'} b => by
        refine ⟨hp.sb b hd, ?_, gr, hw⟩
        obtain ⟨ds, c1, c2, c3⟩ := a6
        obtain ⟨ns, en⟩ := hd
        have hsd : s ≠ d := fun z => by
          subst z
          rw [en] at c1
          cases ds with
          | nil => simp at c2; omega
          | cons d0 dr =>
            cases ns with
            | nil => cases c1
            | cons n0 nr => cases c1
        refine ⟨ds, b _ _ hsd c1, c2, fun i hi => ?_⟩
        obtain ⟨d0, es, v1, v2, kvs, v3, v4, v5⟩ := c3 i hi
        exact ⟨d0, es, v1, v2, kvs, b _ _ (ne_of v3 en (fun z => by cases z)) v3, v4, fun k e w => let ⟨t, w1, w2⟩ := v5 k e w; ⟨t, w1, b _ _ (ne_of w2 en (fun z => by cases z)) w2⟩⟩
      refine ⟨_, rfl, _, rfl, _, rfl, 1, rfl, p, s, rs, G, wt, one, -1, rfl, sbs b2, h1n, fun H3 md f s3 nmd emd mo => ?_⟩
      refine ⟨md, _, rfl, emd, fun l1 nl1 => ?_⟩
      rw [dN_keys]
      have s4 := s3.trans (same_new (o := .lst (nV (ks f))) nl1)
      have e4' : upd H3 l1 (.lst (nV (ks f))) l1 = some (.lst ((iN (ks f)).map V.int)) := by rw [upd_same, nV_iN]
      generalize upd H3 l1 (.lst (nV (ks f))) = H4 at *
      refine ⟨l1, _, rfl, sqL e4', fun ns' p9 hp1 hp2 np => ?_⟩
      obtain ⟨L, hL, hpm⟩ := perm_nat hp1
      have s5 := s4.trans (same_new (o := .lst (ns'.map V.int)) np)
      have e5' : upd H4 p9 (.lst (ns'.map V.int)) p9 = some (.lst (nV L)) := by rw [upd_same, hL, nV_iN]
      generalize upd H4 p9 (.lst (ns'.map V.int)) = H5 at *
      have Llen : L.length ≤ rs.length := by rw [hpm.length_eq, ks_len]; exact mo.len
      refine ⟨p9, rfl, ⟨_, sqL e5'⟩, fun D2 nD2 => ?_⟩
      refine lc_st (walk_list (K := K) (a := p9) (xs := nV L)) (fun i acc H' => Same H5 H' ∧ acc = nV ((L.take i).filter (fun x => !decide (x = one)))) ⟨same_new nD2, rfl⟩ (fun i acc _ _ H' _ ⟨s, e⟩ => ⟨same_mut s nD2, e⟩) (fun i acc H' _ ⟨s, e⟩ => sqL (s _ _ e5')) (fun i acc H' hi ⟨s, e⟩ => ?_) (fun i xv acc H6 H7 hi eD ⟨s, e⟩ ⟨eH, exv⟩ Qy Qn ky kn => ?_) (fun acc H6 eO ⟨s6, e⟩ => ?_)
      · rw [e, nV_len]
        have l1 : ((L.take i).filter (fun x => !decide (x = one))).length ≤ L.length := Nat.le_trans (List.length_filter_le _ _) (by rw [List.length_take]; omega)
        exact szl (by omega)
      · subst eH
        obtain ⟨y, ey, rfl⟩ := nV_get exv
        have et : L.take (i + 1) = L.take i ++ [y] := by rw [List.take_add_one, ey]; rfl
        refine ⟨rfl, _, rfl, _, rfl, rfl, _, rfl, ?_⟩
        rw [ne_bl]
        by_cases z : y = one
        · rw [decide_eq_true z]
          exact kn _ eD ⟨s, by rw [et, List.filter_append, e]; simp [z]⟩
        · rw [decide_eq_false z]
          exact ⟨_, rfl, ky _ _ eD ⟨s, by rw [et, List.filter_append, e, nV_app]; simp [z]; rfl⟩⟩
      rw [nV_len, take_all] at e
      subst e
      obtain ⟨ot, hot⟩ : ∃ ot, ot = L.filter (fun x => !decide (x = one)) := ⟨_, rfl⟩
      rw [← hot] at eO
      have s56 := s5.trans s6
      have b6 := b2.trans (SB.of (d := d) s56)
      have hd6 := hd2.same s56
      refine ⟨_, rfl, Nat.zero_le _, fun e0 ne0 => ?_⟩
      have t7 := same_new (o := .lst []) ne0
      have e07 : upd H6 e0 (.lst []) e0 = some (.lst []) := upd_same
      have eO7 := t7 _ _ eO
      have b7 := b6.trans (SB.of (d := d) t7)
      have hd7 := hd6.same t7
      generalize upd H6 e0 (.lst []) = H7 at *
      refine eq_nil eO7 e07 ⟨_, rfl, ite2 (fun _ => q _ _ b7 hd7 (.inl rfl)) (fun z => ?_)⟩
      have opos : 0 < ot.length := by
        cases ot with
        | nil => exact absurd (decide_eq_true rfl) z
        | cons a b => exact Nat.succ_pos _
      have neO : D2 ≠ d := (hd2.same s5).ne nD2
      refine ⟨_, rfl, _, rfl, _, rfl, d, rfl, hd7, fun H8 y s8 hd8 => ?_⟩
      have eO8 := s8.lst neO eO7
      obtain ⟨k, k1, k2⟩ := mod_lt_len (x := y) opos
      have hoth := List.getElem_mem k2
      have eoth : ot[k]? = some ot[k] := List.getElem?_eq_getElem k2
      generalize ot[k] = other at *
      refine ⟨_, rfl, D2, _, rfl, .inl (sqL eO8), _, _, rfl, rfl, (by show (0 : Int) < ((nV ot).length : Int); rw [nV_len]; omega), D2, _, _, _, rfl, rfl, sqL eO8, (by show atI (nV ot) (y % ((nV ot).length : Int)) = _; rw [nV_len, k1]; exact atI_nat (nV_at eoth)), by show 2 ≤ sizeLine; decide, fun t nt => ?_⟩
      have t9 := same_new (o := .tup [.int (one : Int), .int (other : Int)]) nt
      refine q _ _ ((b7.trans s8).trans (SB.of t9)) (hd8.same t9) (.inr ⟨t, one, other, rfl, upd_same, ?_⟩)
      rw [hot] at hoth
      obtain ⟨m1, m2⟩ := List.mem_filter.mp hoth
      have m3 : other ≠ one := by simpa using m2
      have rc := (mo.rc other).mp (hpm.mem_iff.mp m1)
      have hon := Rc.lt gr h1n rc
      obtain ⟨r2, er2⟩ := row_at hon
      have last : ∃ w, Rc G wt (-1) one w ∧ other ∈ bh G wt (-1) w := by
        cases rc with
        | refl => exact absurd rfl m3
        | step c1 c2 => exact ⟨_, c1, c2⟩
      obtain ⟨w, w1, w2⟩ := last
      obtain ⟨_, ⟨ed, ed1, ed2⟩, w4⟩ := bh_mem.mp w2
      have hlt := hg w ed (Rc.lt gr h1n w1) ed1
      rw [ed2] at hlt
      refine ⟨⟨fun z => m3 z.symm, fun x hx => ?_⟩, rc_self rc⟩
      rcases hx with z | z
      · rw [z]
        exact ⟨r1, er1, nw1, nd1⟩
      · rw [z]
        refine ⟨r2, er2, fun y => ?_, hdt other r2 hlt er2⟩
        have := hw other r2 er2
        rw [w4, y] at this
        exact absurd this (by simp)
end
end B65

end

section
set_option Elab.async false
set_option linter.all false
set_option maxRecDepth 100000
set_option maxHeartbeats 1000000
namespace B65
open PySem PySem.Spec PyProof.Rows L2
section
variable {P : Program} {w : World} {K : PySem.W.Frag} {mg : Str → Option Value} {base : Heap}
def sp_law_sum (K : PySem.W.Frag) : Sp := fun vs H Q _ => ∃ (st t : Addr) (n k : Nat) (G : Nat → List Edge) (w : List Nat), vs = [.ref st, .ref t, .int (k : Int)] ∧ StepsAt H st n G ∧ GrOk G n ∧ (H t = some (.lst (nV w)) ∨ SqT K H t (nV w)) ∧ w.length ≤ 10000 ∧ (∀ x ∈ w, x < n) ∧ Chn (InE G) w ∧ (k = 0 ∨ k = 1) ∧ ∀ H', Same H H' → Q (.int (wsum G k w)) H'
theorem sc__law_sum : FnScope ["_law_steps_here", "_law_way_here", "_law_which", "_law_row", "_law_following"] ["_law_steps_here", "_law_way_here", "_law_which"] (defScope (topS 87)) := ⟨rfl, rfl, rfl, by decide +kernel, rfl, by decide +kernel, by decide +kernel⟩
theorem ok__law_sum (T : Txt K mg) : Ok P w K mg base 1 "_law_sum" ["_law_steps_here", "_law_way_here", "_law_which"] (sp_law_sum K) := by
  obtain ⟨fd, F⟩ := T.d__law_sum
  refine ⟨fd, F.ok sc__law_sum (fun vs H Q E h => ?_) (fun cdv A outer s H vs Q E hr h => ?_), F.kp, F.bindsN fun _ _ _ _ _ _ us hl => match us, hl with | [_, _, _], _ => rfl⟩
  · obtain ⟨st, t, n, k, G, w, rfl, _⟩ := h
    rfl
  · obtain ⟨st, t, n, k, G, w, rfl, hs, hg, ht, hl, hlt, hch, hk, q⟩ := h
    have hu := hu_of hr
    refine ⟨_, PSs.nox (pss_one (ps_ret (pe_callB (cr_sum rfl) (by rfl) T.z_sum (by decide +kernel) (pa_cons (pe_lc (own := [("_law_row", 3), ("_law_following", 4)]) rfl sc__law_sum.nd (RZ.pi_zipA (by rfl) T.z_zip (pa_cons (pe_slice (SlR.or sl_list sl_tupA) (pv 1) po_none (po_some (pe_un un_neg pe_int))) (pa_cons (pe_slice (SlR.or sl_list sl_tupA) (pv 1) (po_some pe_int) po_none) pa_nil))) (blkOk_by (N := ["_law_steps_here", "_law_way_here", "_law_which", "_law_row", "_law_following"]) (sc := defScope (topS 87)) (by decide +kernel)) (fun _ _ _ _ _ => (R65.pg_tupK (K := K) (n := 2) rfl rfl (pgs_cons (pg_name (i := 3) sc__law_sum.nd rfl (by first | exact Or.inl rfl | exact Or.inr rfl)) (pgs_cons (pg_name (i := 4) sc__law_sum.nd rfl (by first | exact Or.inl rfl | exact Or.inr rfl)) pgs_nil)))) (fun _ _ _ _ _ => pts_nil) (fun _ _ _ _ _ => (pe_ix (r := rIxT K) ix_tup (pe_dget hu (pe_ix (r := rIxL K) ix_list (pv 0) (pv 3) (fun _ _ => rfl)) (pv 4) (fun _ _ => rfl)) (pv 2) (fun _ _ => rfl)))) pa_nil)))), ?_⟩
    have lw : (wsOf G k w).length ≤ 10000 := by rw [wsOf_len]; omega
    have c1 : cutV (nV w) none (some (-1)) = nV (w.take (w.length - 1)) := by rw [cut_init, nV_len, nV_take]
    have c2 : cutV (nV w) (some 1) none = nV (w.drop 1) := by rw [cut_tail, nV_drop]
    rcases ht with ht | ht
    · refine ⟨_, rfl, 1, rfl, _, rfl, .inl ⟨t, _, rfl, sqL ht, fun t1 n1 => ?_⟩⟩
      rw [c1]
      have s1 := same_new (o := .lst (nV (w.take (w.length - 1)))) n1
      have ht1 : upd H t1 (.lst (nV (w.take (w.length - 1)))) t1 = some (.lst (nV (w.take (w.length - 1)))) := upd_same
      generalize upd H t1 (.lst (nV (w.take (w.length - 1)))) = H1 at *
      refine ⟨_, rfl, _, rfl, .inl ⟨t, _, rfl, sqL (s1 _ _ ht), fun t2 n2 => ?_⟩⟩
      rw [c2]
      have s2 := same_new (o := .lst (nV (w.drop 1))) n2
      have ht2 : upd H1 t2 (.lst (nV (w.drop 1))) t2 = some (.lst (nV (w.drop 1))) := upd_same
      replace ht1 := s2 _ _ ht1
      have s12 := s1.trans s2
      have hs2 := hs.same s12
      generalize upd H1 t2 (.lst (nV (w.drop 1))) = H2 at *
      have hq : True := trivial
      · skip
        refine ⟨t1, t2, _, _, rfl, .inl ⟨sqL ht1, sqL ht2, fun D nD => ?_⟩⟩
        refine lc_st (walk_zip (pairs_len w)) (fun i acc H' => Same H2 H' ∧ acc = ((wsOf G k w).take i).map V.int) ⟨same_new nD, rfl⟩ (fun i acc _ _ H' _ ⟨s, e⟩ => ⟨same_mut s nD, e⟩) (fun i acc H' _ ⟨s, e⟩ => ⟨sqL (s _ _ ht1), sqL (s _ _ ht2)⟩) (fun i acc H' hi ⟨s, e⟩ => by rw [e, List.length_map, List.length_take]; exact szl (by omega)) (fun i xv acc H3 H' hi eD ⟨s, e⟩ ⟨T9, y1, y2, ex, nT, eH, e1, e2⟩ Qy Qn ky kn => ?_) (fun acc H' eD ⟨s, e⟩ => ?_)
        · subst eH
          obtain ⟨a, b, ea, eb, rfl, rfl⟩ := pairs_get e1 e2
          have t4 := same_new (o := .tup [.int (a : Int), .int (b : Int)]) nT
          have eT : upd H3 T9 (.tup [.int (a : Int), .int (b : Int)]) T9 = some (.tup [.int (a : Int), .int (b : Int)]) := upd_same
          have eD4 := t4 _ _ eD
          generalize upd H3 T9 (.tup [.int (a : Int), .int (b : Int)]) = H4 at *
          obtain ⟨ys, d, t9, g1, g2, g3, g4⟩ := (hs2.same (s.trans t4)).edge hg (hlt a (List.mem_of_getElem? ea)) (hch i a b ea eb)
          have ek : atI [V.int (ew G a b).1, V.int (ew G a b).2] (k : Int) = some (.int (pk k (ew G a b))) := by
            rcases hk with z | z <;> subst z <;> rfl
          refine ⟨T9, _, ex, sqT eT, rfl, _, _, rfl, _, _, rfl, rfl, rfl, ?_⟩
          refine ⟨_, rfl, _, rfl, st, _, _, _, rfl, rfl, sqL g1, g2, _, rfl, d, _, rfl, g3, _, rfl, t9, _, _, _, rfl, rfl, sqT g4, ek, ky _ _ eD4 ⟨s.trans t4, ?_⟩⟩
          rw [e, List.take_add_one, wsOf_get ea eb, List.map_append]
          rfl
        · rw [List.take_of_length_le (by rw [wsOf_len]; exact Nat.le_refl _)] at e
          exact ⟨D, _, rfl, sqL (by rw [eD, e]), q _ (s12.trans s)⟩
    · refine ⟨_, rfl, 1, rfl, _, rfl, .inr (slA ht fun t1 H1 s1 ht1 => ?_)⟩
      refine ⟨_, rfl, _, rfl, .inr (slA (same_t s1 ht) fun t2 H2 s2 ht2 => ?_)⟩
      rw [c1] at ht1
      rw [c2] at ht2
      replace ht1 := same_t s2 ht1
      have s12 := s1.trans s2
      have hs2 := hs.same s12
      have hq : True := trivial
      · skip
        refine ⟨t1, t2, _, _, rfl, .inr ⟨ht1, ht2, fun D nD => ?_⟩⟩
        refine lc_st (walk_zipT (pairs_len w)) (fun i acc H' => Same H2 H' ∧ acc = ((wsOf G k w).take i).map V.int) ⟨same_new nD, rfl⟩ (fun i acc _ _ H' _ ⟨s, e⟩ => ⟨same_mut s nD, e⟩) (fun i acc H' _ ⟨s, e⟩ => ⟨same_t s ht1, same_t s ht2⟩) (fun i acc H' hi ⟨s, e⟩ => by rw [e, List.length_map, List.length_take]; exact szl (by omega)) (fun i xv acc H3 H' hi eD ⟨s, e⟩ ⟨T9, y1, y2, ex, nT, eH, e1, e2⟩ Qy Qn ky kn => ?_) (fun acc H' eD ⟨s, e⟩ => ?_)
        · subst eH
          obtain ⟨a, b, ea, eb, rfl, rfl⟩ := pairs_get e1 e2
          have t4 := same_new (o := .tup [.int (a : Int), .int (b : Int)]) nT
          have eT : upd H3 T9 (.tup [.int (a : Int), .int (b : Int)]) T9 = some (.tup [.int (a : Int), .int (b : Int)]) := upd_same
          have eD4 := t4 _ _ eD
          generalize upd H3 T9 (.tup [.int (a : Int), .int (b : Int)]) = H4 at *
          obtain ⟨ys, d, t9, g1, g2, g3, g4⟩ := (hs2.same (s.trans t4)).edge hg (hlt a (List.mem_of_getElem? ea)) (hch i a b ea eb)
          have ek : atI [V.int (ew G a b).1, V.int (ew G a b).2] (k : Int) = some (.int (pk k (ew G a b))) := by
            rcases hk with z | z <;> subst z <;> rfl
          refine ⟨T9, _, ex, sqT eT, rfl, _, _, rfl, _, _, rfl, rfl, rfl, ?_⟩
          refine ⟨_, rfl, _, rfl, st, _, _, _, rfl, rfl, sqL g1, g2, _, rfl, d, _, rfl, g3, _, rfl, t9, _, _, _, rfl, rfl, sqT g4, ek, ky _ _ eD4 ⟨s.trans t4, ?_⟩⟩
          rw [e, List.take_add_one, wsOf_get ea eb, List.map_append]
          rfl
        · rw [List.take_of_length_le (by rw [wsOf_len]; exact Nat.le_refl _)] at e
          exact ⟨D, _, rfl, sqL (by rw [eD, e]), q _ (s12.trans s)⟩
def sp_law_is_way (K : PySem.W.Frag) : Sp := fun vs H Q _ => ∃ (p s t : Addr) (rs : List Row) (G : Nat → List Edge) (wt : Nat → Bool) (one other : Nat) (w : List Nat), vs = [.ref p, .ref s, .int (one : Int), .int (other : Int), .ref t] ∧ LG H p s rs G wt ∧ SqT K H t (nV w) ∧ WayOk G wt rs.length one other w ∧ ∀ H', Same H H' → Q (.bl true) H'
theorem sc__law_is_way : FnScope ["_law_program", "_law_steps_here", "_law_one", "_law_other", "_law_way_here", "_law_row", "_law_following"] ["_law_program", "_law_steps_here", "_law_one", "_law_other", "_law_way_here"] (defScope (topS 88)) := ⟨rfl, rfl, rfl, by decide +kernel, rfl, by decide +kernel, by decide +kernel⟩
theorem ok__law_is_way (T : Txt K mg) : Ok P w K mg base 1 "_law_is_way" ["_law_program", "_law_steps_here", "_law_one", "_law_other", "_law_way_here"] (sp_law_is_way K) := by
  obtain ⟨fd, F⟩ := T.d__law_is_way
  refine ⟨fd, F.ok sc__law_is_way (fun vs H Q E h => ?_) (fun cdv A outer s H vs Q E hr h => ?_), F.kp, F.bindsN fun _ _ _ _ _ _ us hl => match us, hl with | [_, _, _, _, _], _ => rfl⟩
  · obtain ⟨p, s, t, rs, G, wt, one, other, w, rfl, _⟩ := h
    rfl
  · obtain ⟨p, s, t, rs, G, wt, one, other, w, rfl, hs, ht, ok, q⟩ := h
    have hu := hu_of hr
    refine ⟨_, PSs.nox (pss_cons (ps_if (PW.pt (pw_or (pt_not (pt_chain op_le op_le pe_int (pe_callB call_len_seq (by rfl) T.z_len (by decide +kernel) (pa_cons (pv 4) pa_nil)) pe_int)) (pw_or (pt_cmpR op_ne (pe_ix ix_tup (pv 4) pe_int (fun _ _ => rfl)) (pv 2) (nomark _)) (pw_or1 (pt_cmpR op_ne (pe_ix ix_tup (pv 4) (pe_un un_neg pe_int) (fun _ _ => rfl)) (pv 3) (nomark _))))))
      (pss_one (ps_ret pe_bl))
      pss_nil)
      (pss_cons (ps_for PassesOwn.never rfl (RZ.pi_zipA (by rfl) T.z_zip (pa_cons (pe_slice sl_tupA (pv 4) po_none (po_some (pe_un un_neg pe_int))) (pa_cons (pe_slice sl_tupA (pv 4) (po_some pe_int) po_none) pa_nil))) (pg_tup rfl (pgs_cons (pg_name (i := 5) sc__law_is_way.nd rfl (by first | exact Or.inl rfl | exact Or.inr rfl)) (pgs_cons (pg_name (i := 6) sc__law_is_way.nd rfl (by first | exact Or.inl rfl | exact Or.inr rfl)) pgs_nil)))
      (pss_one (ps_if (pt_cmp (pc_dnotin hu (pv 6) (pe_ix ix_list (pv 1) (pv 5) (fun _ _ => rfl))))
      (pss_one (ps_ret pe_bl))
      pss_nil)))
      (pss_one (ps_ret (pe_cmpR (op_eqD hr.units) (pe_lc (own := [("_law_row", 5)]) rfl sc__law_is_way.nd (pi_tup (pe_slice sl_tupA (pv 4) (po_some pe_int) (po_some (pe_un un_neg pe_int)))) (blkOk_by (N := ["_law_program", "_law_steps_here", "_law_one", "_law_other", "_law_way_here", "_law_row", "_law_following"]) (sc := defScope (topS 88)) (by decide +kernel)) (fun _ _ _ _ _ => (pg_name (i := 5) sc__law_is_way.nd rfl (by first | exact Or.inl rfl | exact Or.inr rfl))) (fun _ _ _ _ _ => (pts_one (PW.pt (pw_or (pt_cmpR op_eq (pv 5) (pv 3) (nomark _)) (pw_or1 (pt_cmpR op_eq (pe_ix (r := rIxT K) ix_tup (pe_ix (r := rIxT K) ix_tup (pv 0) (pv 5) (fun _ _ => rfl)) pe_int (fun _ _ => rfl)) pe_str (nomark _))))))) (fun _ _ _ _ _ => (pv 5))) (pe_lst pa_nil) (nomark _)))))), ?_⟩
    obtain ⟨hp, a6, gr, hw⟩ := id hs
    have h2 := ok.two
    have h200 := ok.most
    refine ⟨_, rfl, t, _, rfl, .inr ht, _, _, rfl, rfl, true, congrArg V.bl (decide_eq_true (by rw [nV_len]; omega)), ?_⟩
    refine ⟨_, _, rfl, rfl, true, congrArg V.bl (decide_eq_true (by rw [nV_len]; omega)), ?_⟩
    refine ⟨_, rfl, t, _, _, _, rfl, rfl, ht, atI_nat (j := 0) (nV_at ok.first), _, rfl, rfl, false, by rw [decide_eq_true rfl]; rfl, ?_⟩
    refine ⟨_, rfl, 1, rfl, t, _, _, _, rfl, rfl, ht, at_last ok.last, _, rfl, rfl, false, by rw [decide_eq_true rfl]; rfl, ?_⟩
    refine ⟨_, rfl, 1, rfl, _, rfl, slA ht fun t1 H1 s1 ht1 => ?_⟩
    refine ⟨_, rfl, _, rfl, ?_⟩
    refine slB (same_t s1 ht) fun t2 H2 s2 ht2 => ?_
    rw [show cutV (nV w) none (some (-1)) = nV (w.take (w.length - 1)) by rw [cut_init, nV_len, nV_take]] at ht1
    rw [show cutV (nV w) (some 1) none = nV (w.drop 1) by rw [cut_tail, nV_drop]] at ht2
    have hs2 := a6.same (s1.trans s2)
    refine ⟨t1, t2, _, _, rfl, .inr ⟨same_t s2 ht1, ht2, for_it (walk_zipT (pairs_len w)) (fun i σ H' => ∃ x1 x2, σ = [some (.ref p), some (.ref s), some (.int (one : Int)), some (.int (other : Int)), some (.ref t), x1, x2] ∧ Same H2 H') ⟨none, none, rfl, Same.refl _⟩ (fun i σ H' _ ⟨_, _, _, e⟩ => ⟨same_t e (same_t s2 ht1), same_t e ht2⟩) ?_ ?_⟩⟩
    · rintro i x σ H3 H' hi ⟨x1, x2, rfl, s3⟩ ⟨T9, y1, y2, rfl, nT, rfl, e1, e2⟩
      obtain ⟨a, b, ea, eb, rfl, rfl⟩ := pairs_get e1 e2
      have s4 := same_new (o := .tup [.int (a : Int), .int (b : Int)]) nT
      refine ⟨T9, _, rfl, sqT upd_same, rfl, _, _, rfl, _, _, rfl, rfl, ?_⟩
      obtain ⟨ys, d, t9, g1, g2, g3, g4⟩ := (hs2.same (s3.trans s4)).edge gr.toGrOk (ok.lt a (List.mem_of_getElem? ea)) (ok.ch i a b ea eb)
      exact ⟨_, rfl, _, rfl, _, rfl, s, _, _, _, rfl, rfl, sqL g1, g2, d, _, rfl, g3, false, rfl, _, _, rfl, s3.trans s4⟩
    · rintro σ H' ⟨x1, x2, rfl, s3⟩
      have s123 := (s1.trans s2).trans s3
      refine ⟨_, rfl, _, rfl, 1, rfl, _, rfl, slA (same_t s123 ht) fun t3 H4 s4 ht3 => ?_⟩
      rw [cut_mid_nV] at ht3
      have s1234 := s123.trans s4
      refine ⟨t3, rfl, ⟨_, ht3⟩, fun D nD => ?_⟩
      refine lc_st (walk_tup (K := K) (a := t3) (xs := nV ((w.drop 1).take (w.length - 2)))) (fun i acc H' => Same H4 H' ∧ acc = nV []) ⟨same_new nD, rfl⟩ (fun i acc _ _ H' _ ⟨s, e⟩ => ⟨same_mut s nD, e⟩) (fun i acc H' _ ⟨s, e⟩ => same_t s ht3) (fun i acc H' hi ⟨s, e⟩ => by rw [e]; exact szl (by decide)) (fun i xv acc H5 H6 hi eD ⟨s5, e⟩ ⟨eH, exv⟩ Qy Qn ky kn => ?_) (fun acc H5 eD ⟨s5, e⟩ => ?_)
      · subst eH
        obtain ⟨n, en, rfl⟩ := nV_get exv
        have hm := List.mem_of_getElem? en
        obtain ⟨m1, m2⟩ := ok.mid n hm
        have hn := ok.lt n (List.mem_of_mem_drop (List.mem_of_mem_take hm))
        obtain ⟨r, er⟩ := row_at hn
        obtain ⟨ys, a, g1, g2, g3⟩ := (hp.same (s1234.trans s5)).row er
        refine ⟨rfl, _, rfl, _, rfl, rfl, false, congrArg V.bl (decide_eq_false (fun z => m2 (by have := V.int.inj z; omega))), ?_⟩
        refine ⟨_, rfl, _, rfl, p, _, _, _, rfl, rfl, sqT g1, g2, a, _, _, _, rfl, rfl, sqT g3, at1, rfl, false, ?_, kn _ eD ⟨s5, e⟩⟩
        rw [bl_str, ← hw n r er, m1]
      · rw [e] at eD
        refine ⟨Nat.zero_le _, fun e0 ne0 => ?_⟩
        exact eq_nil (same_new ne0 _ _ eD) upd_same (q _ ((s1234.trans s5).trans (same_new ne0)))
end
end B65

end

section
set_option Elab.async false
set_option linter.all false
set_option maxRecDepth 100000
set_option maxHeartbeats 1000000
namespace B65
open PySem PySem.Spec PyProof.Rows L2
section
variable {P : Program} {w : World} {K : PySem.W.Frag} {mg : Str → Option Value} {base : Heap}
theorem eq_unit {H : Hp} {Q : VK} {v : V} {q : Price} {et : Addr} (h : PrV H v q) (he : H et = some (.tup [])) (k : Q (.bl q.isClosed) H) : rEqD K v (.ref et) H Q := by
  have h2 : Dp K H (.ref et) (.tuple []) := .tup (sqT he) .nil
  cases q with
  | no =>
    cases h
    exact ⟨_, _, .non, h2, by decide +kernel, by decide +kernel, k⟩
  | closed =>
    obtain ⟨t, rfl, ht⟩ := h
    exact ⟨_, _, .tup (sqT ht) .nil, h2, by decide +kernel, by decide +kernel, k⟩
  | int j =>
    cases h
    exact ⟨_, _, .int j, h2, rfl, by decide +kernel, k⟩
theorem DictAt.getF {H H' : Hp} {d : Addr} {es : List Edge} {od : Obj} {kvs : List (Key × V)} (hk : H d = some (.dK kvs)) (hf : H' d = some (.frz od (.dK kvs))) {x : Nat} {t : Addr} (g : DGet H d (.int (x : Int)) (some (.ref t))) : DGet H' d (.int (x : Int)) (some (.ref t)) := by
  rcases g with ⟨kv, k, a1, a2, a3⟩ | ⟨kv, k, b9, a1, a2, a3, a4⟩
  · rcases a1 with a1 | ⟨o9, a1⟩
    · rw [hk] at a1
      cases a1
      exact .inl ⟨kvs, k, .inr ⟨od, hf⟩, a2, a3⟩
    · rw [hk] at a1
      cases a1
  · cases a2
def sp_law_priced (K : PySem.W.Frag) : Sp := fun vs H Q _ => ∃ (p s t tw tp : Addr) (rs : List Row) (G : Nat → List Edge) (wt : Nat → Bool) (ps : List Price) (w : List Nat) (one other k : Nat) (beats : Int), vs = [.ref p, .ref s, .int (one : Int), .int (other : Int), .ref t, .int (k : Int)] ∧ LG H p s rs G wt ∧ SqT K H t [.int beats, .ref tw, .ref tp] ∧ SqT K H tw (nV w) ∧ PricesAt K H tp ps ∧ PaperOk G wt rs.length one other k beats w ps ∧ (k = 0 ∨ k = 1) ∧ ∀ H', Same H H' → Q (.bl true) H'
theorem sc__law_priced : FnScope ["_law_program", "_law_steps_here", "_law_one", "_law_other", "_law_paper_here", "_law_which", "_law_beats_here", "_law_way_here", "_law_prices", "_law_row", "_law_price", "_law_following", "_law_come", "_law_more"] ["_law_program", "_law_steps_here", "_law_one", "_law_other", "_law_paper_here", "_law_which"] (defScope (topS 89)) := ⟨rfl, rfl, rfl, by decide +kernel, rfl, by decide +kernel, by decide +kernel⟩
theorem ok__law_priced (T : Txt K mg) : Ok P w K mg base 2 "_law_priced" ["_law_program", "_law_steps_here", "_law_one", "_law_other", "_law_paper_here", "_law_which"] (sp_law_priced K) := by
  obtain ⟨fd, F⟩ := T.d__law_priced
  obtain ⟨fd_lis_way, G_lis_way, kp_lis_way, b_lis_way⟩ := ok__law_is_way (P := P) (w := w) (base := base) T
  obtain ⟨fd_lsum, G_lsum, kp_lsum, b_lsum⟩ := ok__law_sum (P := P) (w := w) (base := base) T
  refine ⟨fd, F.ok sc__law_priced (fun vs H Q E h => ?_) (fun cdv A outer s H vs Q E hr h => ?_), F.kp, F.bindsN fun _ _ _ _ _ _ us hl => match us, hl with | [_, _, _, _, _, _], _ => rfl⟩
  · obtain ⟨p, s, t, tw, tp, rs, G, wt, ps, w, one, other, k, beats, rfl, _⟩ := h
    rfl
  · obtain ⟨p, s, t, tw, tp, rs, G, wt, ps, w, one, other, k, beats, rfl, hs, ht, htw, hps, ok, hk, q⟩ := h
    have hu := hu_of hr
    refine ⟨_, PSs.nox (pss_cons (ps_asg (pv 4) (pg_tup rfl (pgs_cons (pg_name (i := 6) sc__law_priced.nd rfl (by first | exact Or.inl rfl | exact Or.inr rfl)) (pgs_cons (pg_name (i := 7) sc__law_priced.nd rfl (by first | exact Or.inl rfl | exact Or.inr rfl)) (pgs_cons (pg_name (i := 8) sc__law_priced.nd rfl (by first | exact Or.inl rfl | exact Or.inr rfl)) pgs_nil)))))
      (pss_cons (ps_if (PW.pt (pw_or (pt_not (pt_val (pe_call G_lis_way hr (by rfl) T.g__law_is_way kp_lis_way b_lis_way .nil pass0 (pa_cons (pv 0) (pa_cons (pv 1) (pa_cons (pv 2) (pa_cons (pv 3) (pa_cons (pv 7) pa_nil)))))))) (pw_or1 (pt_cmpR op_ne (pe_call G_lsum hr (by rfl) T.g__law_sum kp_lsum b_lsum .nil pass0 (pa_cons (pv 1) (pa_cons (pv 7) (pa_cons (pv 5) pa_nil)))) (pv 6) (nomark _)))))
      (pss_one (ps_ret pe_bl))
      pss_nil)
      (pss_cons (ps_if (PW.pt (pw_or (pt_cmpR op_ne (pe_ix ix_tup (pv 8) (pv 2) (fun _ _ => rfl)) pe_int (nomark _)) (pw_or1 (pt_cmpR op_ne (pe_ix ix_tup (pv 8) (pv 3) (fun _ _ => rfl)) (pv 6) (nomark _)))))
      (pss_one (ps_ret pe_bl))
      pss_nil)
      (pss_cons (ps_for PassesOwn.never rfl (R65.pi_enumT (by rfl) T.z_enumerate (pa_cons (pv 8) pa_nil)) (pg_tup rfl (pgs_cons (pg_name (i := 9) sc__law_priced.nd rfl (by first | exact Or.inl rfl | exact Or.inr rfl)) (pgs_cons (pg_name (i := 10) sc__law_priced.nd rfl (by first | exact Or.inl rfl | exact Or.inr rfl)) pgs_nil)))
      (pss_one (ps_lock (ps_for PassesOwn.never rfl (pi_keys (pe_ix ix_list (pv 1) (pv 9) (fun _ _ => rfl))) (pg_name (i := 11) sc__law_priced.nd rfl (by first | exact Or.inl rfl | exact Or.inr rfl))
      (pss_cons (ps_set (i := 12) sc__law_priced.nd rfl (by first | exact Or.inl rfl | exact Or.inr rfl) (pe_ix ix_tup (pv 8) (pv 11) (fun _ _ => rfl)))
      (pss_cons (ps_if (PW.pt (pw_or (pt_cmpR op_eq (pe_ix ix_tup (pe_ix ix_tup (pv 0) (pv 11) (fun _ _ => rfl)) pe_int (fun _ _ => rfl)) pe_str (nomark _)) (pw_or (pt_cmpR op_isN (pv 10) pe_non (nomark _)) (pw_or (pt_cmpR (op_eqD hr.units) (pv 12) (pe_tup pa_nil) (nomark _)) (pw_or1 (pt_cmpR op_eq (pv 9) (pv 3) (nomark _)))))))
      (pss_one ps_continue)
      pss_nil)
      (pss_cons (ps_if (PW.pt (pw_or (pt_cmpR (op_eqD hr.units) (pv 10) (pe_tup pa_nil) (nomark _)) (pw_or1 (pt_cmpR op_isN (pv 12) pe_non (nomark _)))))
      (pss_one (ps_ret pe_bl))
      pss_nil)
      (pss_cons (ps_set (i := 13) sc__law_priced.nd rfl (by first | exact Or.inl rfl | exact Or.inr rfl) (pe_op op_sub (pe_op op_sub (pv 12) (pv 10)) (pe_ix ix_tup (pe_dget hu (pe_ix ix_list (pv 1) (pv 9) (fun _ _ => rfl)) (pv 11) (fun _ _ => rfl)) (pv 5) (fun _ _ => rfl))))
      (pss_one (ps_if (pt_cmpR op_gt (pe_ix ix_list (pe_lst (pa_cons (pv 13) (pa_cons (pe_op op_sub pe_int (pv 13)) pa_nil))) (pv 5) (fun _ _ => rfl)) pe_int (nomark _))
      (pss_one (ps_ret pe_bl))
      pss_nil))))))))))
      (pss_one (ps_ret pe_bl)))))), ?_⟩
    obtain ⟨hp, a6, gr, hw⟩ := id hs
    have n120 := gr.n120
    have w200 := ok.way.most
    refine ⟨_, rfl, t, _, rfl, ht, rfl, _, _, rfl, _, _, rfl, _, _, rfl, rfl, ?_⟩
    refine ⟨_, rfl, _, rfl, _, rfl, _, rfl, _, rfl, p, s, tw, rs, G, wt, one, other, w, rfl, hs, htw, ok.way, fun H1 s1 => ⟨true, rfl, ?_⟩⟩
    refine ⟨_, rfl, _, rfl, _, rfl, s, tw, rs.length, k, G, w, rfl, a6.same s1, gr.toGrOk, .inr (same_t s1 htw), by omega, ok.way.lt, ok.way.ch, hk, fun H2 s2 => ⟨_, rfl, rfl, false, by rw [ok.sum, decide_eq_true rfl]; rfl, ?_⟩⟩
    have s12 := s1.trans s2
    have hps2 := hps.same s12
    obtain ⟨ws, v0, a1, a2, a3⟩ := hps2.at_ ok.p1
    obtain ⟨ws2, v9, b1, b2, b3⟩ := hps2.at_ ok.p2
    cases (show v0 = .int 0 from a3)
    cases (show v9 = .int beats from b3)
    refine ⟨_, rfl, _, rfl, tp, _, _, _, rfl, rfl, a1, a2, rfl, false, by rw [decide_eq_true rfl]; rfl, ?_⟩
    refine ⟨_, rfl, _, rfl, tp, _, _, _, rfl, rfl, b1, b2, _, rfl, rfl, false, by rw [decide_eq_true rfl]; rfl, ?_⟩
    obtain ⟨pv, pv1, pv2, pv3⟩ := id hps2
    refine ⟨_, rfl, tp, _, rfl, pv1, for_it (walk_enumT (K := K) (a := tp) (xs := pv)) (fun i σ H' => ∃ x9 x10 x11 x12 x13, σ = [some (.ref p), some (.ref s), some (.int (one : Int)), some (.int (other : Int)), some (.ref t), some (.int (k : Int)), some (.int beats), some (.ref tw), some (.ref tp), x9, x10, x11, x12, x13] ∧ Same H2 H') ⟨none, none, none, none, none, rfl, Same.refl _⟩ (fun i σ H' _ ⟨_, _, _, _, _, _, e⟩ => same_t e pv1) ?_ ?_⟩
    · rintro i xv σ H3 H' hi ⟨x9, x10, x11, x12, x13, rfl, s3⟩ ⟨T9, y1, y2, rfl, nT, rfl, e1, e2⟩
      cases e1
      have hi2 : i < rs.length := by rw [← ok.len, ← pv2]; exact hi
      have s4 := s3.trans (same_new (o := .tup [.int ((i : Nat) : Int), y2]) nT)
      have eT : upd H3 T9 (.tup [.int ((i : Nat) : Int), y2]) T9 = some (.tup [.int ((i : Nat) : Int), y2]) := upd_same
      generalize upd H3 T9 (.tup [.int ((i : Nat) : Int), y2]) = H4 at *
      refine ⟨T9, _, rfl, sqT eT, rfl, _, _, rfl, _, _, rfl, rfl, ?_⟩
      have ep : ps[i]? = some (ps[i]'(by rw [ok.len]; exact hi2)) := List.getElem?_eq_getElem _
      have rk := ok.rk i hi2 _ ep
      have hv := (pv3 i y2 _ e2 ep).same s4
      generalize ps[i]'(by rw [ok.len]; exact hi2) = pr at *
      have s124 := s12.trans s4
      obtain ⟨xs, d, es, h1, h2, h3, h4⟩ := (a6.same s124).row hi2
      have hget := fun {e : Edge} (he : e ∈ es) => h4.get ((h3.map (·.1)).nodup_iff.mpr (gr.nd i hi2)) he
      obtain ⟨kvs, k1, k2, k3⟩ := h4
      refine ⟨d, _, k1, trivial, fun od => ?_⟩
      have nd := ND.lock (o := .frz od (.dK kvs)) k1
      have hd : upd H4 d (.frz od (.dK kvs)) d = some (.frz od (.dK kvs)) := upd_same
      have hvL := nd.prv hv
      have hpL := nd.prog (hp.same s124)
      have hpsL := nd.prices (hps2.same s4)
      have h1L : upd H4 d (.frz od (.dK kvs)) s = some (.lst xs) := nd _ _ h1 (fun _ z => by cases z)
      have fin : ∀ H', Same (upd H4 d (.frz od (.dK kvs))) H' → Same H4 (upd H' d (.dK kvs)) := fun H' s => lockS k1 s
      have getL : ∀ (e : Edge), e ∈ es → ∃ t, DGet (upd H4 d (.frz od (.dK kvs))) d (.int (e.1 : Int)) (some (.ref t)) ∧ upd H4 d (.frz od (.dK kvs)) t = some (.tup [.int e.2.1, .int e.2.2]) := fun e he => by
        obtain ⟨t, g1, g2⟩ := hget he
        exact ⟨t, DictAt.getF (es := es) k1 hd g1, nd.tup g2⟩
      generalize upd H4 d (.frz od (.dK kvs)) = HL at *
      refine ⟨_, rfl, _, rfl, s, _, _, _, rfl, rfl, sqL h1L, h2, d, od, rfl, .inl ⟨kvs, hd, for_it walk_keys (fun i9 σ H' => ∃ x11 x12 x13, σ = [some (.ref p), some (.ref s), some (.int (one : Int)), some (.int (other : Int)), some (.ref t), some (.int (k : Int)), some (.int beats), some (.ref tw), some (.ref tp), some (.int (i : Int)), some y2, x11, x12, x13] ∧ Same HL H') ⟨x11, x12, x13, rfl, Same.refl _⟩ (fun i9 σ H' _ ⟨_, _, _, _, e⟩ => e _ _ hd) ?_ ?_⟩⟩
      · rintro i9 xk σ H5 H6 hi9 ⟨x11, x12, x13, rfl, s5⟩ ⟨rfl, kk, vv, ek, rfl⟩
        have ee : es[i9]? = some (es[i9]'(by omega)) := List.getElem?_eq_getElem _
        have hes : es[i9]'(by omega) ∈ es := List.getElem_mem _
        obtain ⟨t8, g1, g2⟩ := k3 i9 _ ee
        obtain ⟨t9, g3, g4⟩ := getL _ hes
        have hem : es[i9]'(by omega) ∈ G i := h3.mem_iff.mp hes
        generalize es[i9]'(by omega) = ed at *
        rw [ek] at g1
        cases g1
        obtain ⟨lt9, _⟩ := gr.ed i hi2 ed hem
        obtain ⟨r, er⟩ := row_at lt9
        have eq9 : ps[ed.1]? = some (ps[ed.1]'(by rw [ok.len]; exact lt9)) := List.getElem?_eq_getElem _
        obtain ⟨ws3, vc, c1, c2, c3⟩ := (hpsL.same s5).at_ eq9
        obtain ⟨ys, a, p1, p2, p3⟩ := (hpL.same s5).row er
        refine ⟨_, rfl, _, rfl, tp, _, _, _, rfl, rfl, c1, c2, ?_⟩
        refine ⟨_, rfl, _, rfl, p, _, _, _, rfl, rfl, sqT p1, p2, a, _, _, _, rfl, rfl, sqT p3, at1, rfl, _, rfl, ?_⟩
        rw [bl_str, ← hw ed.1 r er]
        cases hwe : wt ed.1 with
        | true => exact ⟨_, _, _, rfl, s5⟩
        | false =>
          by_cases hno : pr = .no
          · subst hno
            exact ⟨_, rfl, rfl, true, congrArg V.bl (decide_eq_true hvL), _, _, _, rfl, s5⟩
          have hnn : y2 ≠ .non := fun z => by
            cases pr with
            | no => exact hno rfl
            | closed => obtain ⟨u, e9, _⟩ := hvL; rw [e9] at z; cases z
            | int j => rw [show y2 = .int j from hvL] at z; cases z
          refine ⟨_, rfl, rfl, false, congrArg V.bl (decide_eq_false hnn), ?_⟩
          refine ⟨_, rfl, by show 0 ≤ sizeLine; decide, fun et net => ?_⟩
          have s6 := s5.trans (same_new (o := .tup []) net)
          have eet : upd H6 et (.tup []) et = some (.tup []) := upd_same
          have c3' := c3.same (same_new (o := .tup []) net)
          have c1' := same_t (same_new (o := .tup []) net) c1
          generalize upd H6 et (.tup []) = H7 at *
          refine eq_unit c3' eet ⟨_, rfl, ?_⟩
          by_cases hcl : (ps[ed.1]'(by rw [ok.len]; exact lt9)) = .closed
          · rw [hcl]
            exact ⟨_, _, _, rfl, s6⟩
          rw [show Price.isClosed (ps[ed.1]'(by rw [ok.len]; exact lt9)) = false by
            cases z : ps[ed.1]'(by rw [ok.len]; exact lt9) with
            | no => rfl
            | closed => exact absurd z hcl
            | int j => rfl]
          by_cases hio : i = other
          · subst hio
            exact ⟨_, rfl, _, rfl, rfl, true, congrArg V.bl (decide_eq_true rfl), _, _, _, rfl, s6⟩
          refine ⟨_, rfl, _, rfl, rfl, false, congrArg V.bl (decide_eq_false (fun z => hio (by have := V.int.inj z; omega))), ?_⟩
          obtain ⟨pj, hpj⟩ : ∃ j, pr = .int j := by
            cases pr with
            | no => exact absurd rfl hno
            | closed =>
              have := rk ed hem hwe
              rw [eq9] at this
              exact absurd (Option.some.inj this) hcl
            | int j => exact ⟨j, rfl⟩
          subst hpj
          obtain ⟨qq, u1, u2⟩ := rk.resolve_left hio ed hem hwe
          rw [eq9] at u1
          have u1' := Option.some.inj u1
          rw [u1'] at c3' hcl
          obtain ⟨qj, hqj⟩ : ∃ j, qq = .int j := by
            cases qq with
            | no => exact absurd u2 id
            | closed => exact absurd rfl hcl
            | int j => exact ⟨j, rfl⟩
          subst hqj
          cases (show vc = .int qj from c3')
          cases (show y2 = .int pj from hvL)
          refine ⟨_, rfl, by show 0 ≤ sizeLine; decide, fun et2 net2 => ?_⟩
          have s7 := s6.trans (same_new (o := .tup []) net2)
          have eet2 : upd H7 et2 (.tup []) et2 = some (.tup []) := upd_same
          generalize upd H7 et2 (.tup []) = H8 at *
          refine eq_unit (q := .int pj) rfl eet2 ⟨false, rfl, ?_⟩
          refine ⟨_, rfl, rfl, false, rfl, ?_⟩
          have ek9 : atI [V.int ed.2.1, V.int ed.2.2] (k : Int) = some (.int (pk k ed.2)) := by
            rcases hk with z | z <;> subst z <;> rfl
          have g3' : DGet H8 d (.int (ed.1 : Int)) (some (.ref t9)) := by
            rcases g3 with ⟨kv, k', a1, a2, a3⟩ | ⟨kv, k', b9, a1, a2, a3, a4⟩
            · refine .inl ⟨kv, k', ?_, a2, a3⟩
              rcases a1 with a1 | ⟨o9, a1⟩
              · exact .inl (s7 _ _ a1)
              · exact .inr ⟨o9, s7 _ _ a1⟩
            · cases a2
          refine ⟨_, rfl, _, rfl, _, _, rfl, rfl, _, rfl, _, rfl, s, _, _, _, rfl, rfl, sqL (s7 _ _ h1L), h2, _, rfl, d, _, rfl, g3', _, rfl, t9, _, _, _, rfl, rfl, sqT (s7 _ _ g4), ek9, _, _, rfl, rfl, ?_⟩
          refine ⟨_, rfl, _, rfl, _, _, rfl, rfl, by show 2 ≤ sizeLine; decide, fun ll nll => ?_⟩
          obtain ⟨more, hmore⟩ : ∃ more : Int, more = qj - pj - pk k ed.2 := ⟨_, rfl⟩
          obtain ⟨mv, hmv, hm0⟩ : ∃ mv : Int, atI [V.int (qj - pj - pk k ed.2), V.int (0 - (qj - pj - pk k ed.2))] (k : Int) = some (.int mv) ∧ mv ≤ 0 := by
            rcases hk with z | z
            · subst z
              refine ⟨_, rfl, ?_⟩
              have : qj ≤ pj + pk 0 ed.2 := u2
              omega
            · subst z
              refine ⟨_, rfl, ?_⟩
              have : pj + pk 1 ed.2 ≤ qj := u2
              omega
          have s8 := s7.trans (same_new (o := .lst [.int (qj - pj - pk k ed.2), .int (0 - (qj - pj - pk k ed.2))]) nll)
          exact ⟨_, rfl, ll, _, _, _, rfl, rfl, sqL upd_same, hmv, _, _, rfl, rfl, false, congrArg V.bl (decide_eq_false (by omega)), _, _, _, rfl, s8⟩
      · rintro σ H' ⟨x11, x12, x13, rfl, s5⟩
        exact ⟨s5 _ _ hd, _, _, _, _, _, rfl, s4.trans (fin H' s5)⟩
    · rintro σ H' ⟨x9, x10, x11, x12, x13, rfl, s3⟩
      exact q _ (s12.trans s3)
end
end B65

end

section
set_option Elab.async false
set_option linter.all false
set_option maxRecDepth 100000
set_option maxHeartbeats 1000000
namespace B65
open PySem PySem.Spec PyProof.Rows L2
section
variable {P : Program} {w : World} {K : PySem.W.Frag} {mg : Str → Option Value} {base : Heap}
theorem Rc.head {G : Nat → List Edge} {wt : Nat → Bool} {o : Int} {x z : Nat} (h : Rc G wt o x z) : ∀ P : Nat → Prop, P z → (∀ a b, b ∈ bh G wt o a → Rc G wt o b z → P b → P a) → P x := by
  induction h with
  | refl => exact fun P h _ => h
  | step h1 h2 ih =>
    intro P hz hs
    exact (ih (fun a => P a ∧ Rc G wt o a _) ⟨hs _ _ h2 .refl hz, .step .refl h2⟩ (fun a b hb _ hp => ⟨hs a b hb hp.2 hp.1, (Rc.step .refl hb).trans hp.2⟩)).1
/-! ### a dict of rows, each true -/
def dB (c : List Nat) : List (Key × V) := c.map fun (x : Nat) => ((Sum.inl (x : Int) : Key), V.bl true)
theorem dB_val (c : List Nat) (y : Nat) : valV (dB c) (Sum.inl (y : Int)) = if y ∈ c then some (V.bl true) else none := by
  induction c with
  | nil => rfl
  | cons x r ih =>
    show valV (((Sum.inl (x : Int) : Key), V.bl true) :: dB r) (Sum.inl (y : Int)) = _
    by_cases h : x = y
    · rw [if_pos (List.mem_cons.mpr (.inl h.symm))]
      exact valV_pos (p := ((Sum.inl (x : Int) : Key), V.bl true)) (key_eq.mpr h)
    · rw [valV_neg (p := ((Sum.inl (x : Int) : Key), V.bl true)) (fun z => h (key_eq.mp z)), ih]
      by_cases m : y ∈ r
      · rw [if_pos m, if_pos (List.mem_cons.mpr (.inr m))]
      · rw [if_neg m, if_neg (fun z => (List.mem_cons.mp z).elim (fun e => h e.symm) m)]
theorem dgB {H : Hp} {d : Addr} {c : List Nat} (h : H d = some (.dK (dB c))) (y : Nat) : DGet H d (.int (y : Int)) (if y ∈ c then some (V.bl true) else none) := by
  rw [← dB_val]
  exact DGet.k (k := Sum.inl (y : Int)) h
theorem dpB {H : Hp} {d : Addr} {c : List Nat} (h : H d = some (.dK (dB c))) (hl : c.length < 100000) {y : Nat} (hy : y ∉ c) : DPut H d (.int (y : Int)) (.bl true) (upd H d (.dK (dB (c ++ [y])))) := by
  have e : dB (c ++ [y]) = putK (dB c) (Sum.inl (y : Int)) (.bl true) := by
    rw [putK_new _ (by rw [dB_val, if_neg hy])]
    unfold dB
    rw [List.map_append]
    rfl
  rw [e]
  exact DPut.k (k := Sum.inl (y : Int)) h (by unfold dB; rw [List.length_map]; exact szl hl)
theorem isS {y : Nat} {c : List Nat} : (if y ∈ c then some (V.bl true) else none).isSome = decide (y ∈ c) := by
  by_cases h : y ∈ c
  · rw [if_pos h, decide_eq_true h]; rfl
  · rw [if_neg h, decide_eq_false h]; rfl
structure KB (G : Nat → List Edge) (wt : Nat → Bool) (other n : Nat) (c : List Nat) : Prop where
  nd : c.Nodup
  lt : ∀ x ∈ c, x < n
  ot : other ∈ c
  rc : ∀ x ∈ c, Rc G wt (other : Int) x other
def sp_law_kept (K : PySem.W.Frag) : Sp := fun vs H Q _ => ∃ (p s : Addr) (rs : List Row) (G : Nat → List Edge) (wt : Nat → Bool) (one other : Nat), vs = [.ref p, .ref s, .int (one : Int), .int (other : Int)] ∧ LG H p s rs G wt ∧ one < rs.length ∧ other < rs.length ∧ ∀ H' l kp, Same H H' → H l = none → H' l = some (.lst (nV kp)) → kp.length ≤ rs.length → (∀ x, x ∈ kp ↔ Rc G wt (other : Int) one x ∧ Rc G wt (other : Int) x other) → Q (.ref l) H'
theorem sc__law_kept : FnScope ["_law_program", "_law_steps_here", "_law_one", "_law_other", "_law_met_here", "_law_kept_here", "_law_more", "_law_row", "_law_ahead", "_law_k"] ["_law_program", "_law_steps_here", "_law_one", "_law_other"] (defScope (topS 90)) := ⟨rfl, rfl, rfl, by decide +kernel, rfl, by decide +kernel, by decide +kernel⟩
theorem ok__law_kept (T : Txt K mg) : Ok P w K mg base 3 "_law_kept" ["_law_program", "_law_steps_here", "_law_one", "_law_other"] (sp_law_kept K) := by
  obtain ⟨fd, F⟩ := T.d__law_kept
  obtain ⟨fd_lmet, G_lmet, kp_lmet, b_lmet⟩ := ok__law_met (P := P) (w := w) (base := base) T
  obtain ⟨fd_lbehind, G_lbehind, kp_lbehind, b_lbehind⟩ := ok__law_behind (P := P) (w := w) (base := base) T
  refine ⟨fd, F.ok sc__law_kept (fun vs H Q E h => ?_) (fun cdv A outer s H vs Q E hr h => ?_), F.kp, F.bindsN fun _ _ _ _ _ _ us hl => match us, hl with | [_, _, _, _], _ => rfl⟩
  · obtain ⟨p, s, rs, G, wt, one, other, rfl, _⟩ := h
    rfl
  · obtain ⟨p, s, rs, G, wt, one, other, rfl, hs, h1, ho, q⟩ := h
    have hu := hu_of hr
    refine ⟨_, PSs.nox (pss_cons (ps_set (i := 4) sc__law_kept.nd rfl (by first | exact Or.inl rfl | exact Or.inr rfl) (pe_callB cr_sortedI (by rfl) T.z_sorted (by decide +kernel) (pa_cons (pe_callTy (call_list_dK rfl) (by rfl) T.z_list (by decide +kernel) (pa_cons (pe_call G_lmet hr (by rfl) T.g__law_met kp_lmet b_lmet .nil pass0 (pa_cons (pv 0) (pa_cons (pv 1) (pa_cons (pv 2) (pa_cons (pv 3) pa_nil))))) pa_nil)) pa_nil)))
      (pss_cons (ps_set (i := 5) sc__law_kept.nd rfl (by first | exact Or.inl rfl | exact Or.inr rfl) (pe_disp (pps_cons (pv 3) pe_bl pps_nil) (by rfl) (by rfl) (fun z => by cases z) (by decide)))
      (pss_cons (ps_set (i := 6) sc__law_kept.nd rfl (by first | exact Or.inl rfl | exact Or.inr rfl) pe_bl)
      (pss_cons (ps_while PassesOwn.never (pt_val (pv 6))
      (pss_cons (ps_set (i := 6) sc__law_kept.nd rfl (by first | exact Or.inl rfl | exact Or.inr rfl) pe_bl)
      (pss_one (ps_for PassesOwn.never rfl (pi_reversed (by rfl) T.z_reversed (pa_cons (pv 4) pa_nil)) (pg_name (i := 7) sc__law_kept.nd rfl (by first | exact Or.inl rfl | exact Or.inr rfl))
      (pss_cons (ps_setLc (i := 8) (own := [("_law_k", 9)]) rfl sc__law_kept.nd rfl rfl (sw_true rfl rfl rfl (by decide +kernel)) (pi_list (pe_call G_lbehind (hr.mono (by decide)) (by rfl) T.g__law_behind kp_lbehind b_lbehind .nil pass0 (pa_cons (pv 0) (pa_cons (pv 1) (pa_cons (pv 7) (pa_cons (pv 3) pa_nil)))))) (blkOk_by (N := ["_law_program", "_law_steps_here", "_law_one", "_law_other", "_law_met_here", "_law_kept_here", "_law_more", "_law_row", "_law_ahead", "_law_k"]) (sc := defScope (topS 90)) (by decide +kernel)) (fun _ _ _ _ _ => (pg_name (i := 9) sc__law_kept.nd rfl (by first | exact Or.inl rfl | exact Or.inr rfl))) (fun _ _ _ _ _ => (pts_one (pt_cmp (pc_din hu (pv 9) (pv 5))))) (fun _ _ _ _ _ => (pv 9)))
      (pss_one (ps_if (PW.pt (pw_and (pt_cmp (pc_dnotin hu (pv 7) (pv 5))) (pw_and1 (pt_cmpR (op_neD hr.units) (pv 8) (pe_lst pa_nil) (nomark _)))))
      (pss_cons (ps_dput hu (pv 5) (pv 7) pe_bl rfl)
      (pss_one (ps_set (i := 6) sc__law_kept.nd rfl (by first | exact Or.inl rfl | exact Or.inr rfl) pe_bl)))
      pss_nil)))))))
      (pss_one (ps_ret (pe_lc (own := [("_law_row", 7)]) rfl sc__law_kept.nd (pi_list (pv 4)) (blkOk_by (N := ["_law_program", "_law_steps_here", "_law_one", "_law_other", "_law_met_here", "_law_kept_here", "_law_more", "_law_row", "_law_ahead", "_law_k"]) (sc := defScope (topS 90)) (by decide +kernel)) (fun _ _ _ _ _ => (pg_name (i := 7) sc__law_kept.nd rfl (by first | exact Or.inl rfl | exact Or.inr rfl))) (fun _ _ _ _ _ => (pts_one (pt_cmp (pc_din hu (pv 7) (pv 5))))) (fun _ _ _ _ _ => (pv 7))))))))), ?_⟩
    obtain ⟨hp, a6, gr, hw⟩ := id hs
    have n120 := gr.n120
    refine ⟨_, rfl, _, rfl, _, rfl, _, rfl, p, s, rs, G, wt, one, other, rfl, hs, h1, fun H3 md f s3 nmd emd mo => ?_⟩
    refine ⟨md, _, rfl, emd, fun l1 nl1 => ?_⟩
    rw [dN_keys]
    have s4 := s3.trans (same_new (o := .lst (nV (ks f))) nl1)
    have e4' : upd H3 l1 (.lst (nV (ks f))) l1 = some (.lst ((iN (ks f)).map V.int)) := by rw [upd_same, nV_iN]
    generalize upd H3 l1 (.lst (nV (ks f))) = H4 at *
    refine ⟨l1, _, rfl, sqL e4', fun ns' p9 hp1 hp2 np => ?_⟩
    obtain ⟨L, hL, hpm⟩ := perm_nat hp1
    have s5 := s4.trans (same_new (o := .lst (ns'.map V.int)) np)
    have e5 : upd H4 p9 (.lst (ns'.map V.int)) p9 = some (.lst (nV L)) := by rw [upd_same, hL, nV_iN]
    generalize upd H4 p9 (.lst (ns'.map V.int)) = H5 at *
    have Llen : L.length ≤ rs.length := by rw [hpm.length_eq, ks_len]; exact mo.len
    have Lm : ∀ x, x ∈ L ↔ Rc G wt (other : Int) one x := fun x => by rw [hpm.mem_iff]; exact mo.rc x
    have Llt : ∀ x ∈ L, x < rs.length := fun x hx => Rc.lt gr h1 ((Lm x).mp hx)
    refine fun kd nkd => ⟨_, rfl, upd_same, [((Sum.inl (other : Int) : Key), V.bl true)], rfl, by show 1 ≤ 15; decide, ?_⟩
    have nkd0 := none_of s5 nkd
    have s6 := s5.trans (same_mut (o := .dK (mergeK [] [((Sum.inl (other : Int) : Key), V.bl true)])) (same_new (o := .dK []) nkd) nkd)
    have t6 := same_mut (o := .dK (mergeK [] [((Sum.inl (other : Int) : Key), V.bl true)])) (same_new (o := .dK []) nkd) nkd
    have ekd : upd (upd H5 kd (.dK [])) kd (.dK (mergeK [] [((Sum.inl (other : Int) : Key), V.bl true)])) kd = some (.dK (dB [other])) := upd_same
    have e6 := t6 _ _ e5
    generalize upd (upd H5 kd (.dK [])) kd (.dK (mergeK [] [((Sum.inl (other : Int) : Key), V.bl true)])) = H6 at *
    clear t6 e5
    obtain ⟨W, hW⟩ : ∃ W : Nat → L2.St → Hp → Prop, W = fun m σ H' => ∃ (c : List Nat) (gg : Bool) (x7 x8 : Option V), m = (rs.length - c.length) + (if gg = true then 1 else 0) ∧ σ = [some (.ref p), some (.ref s), some (.int (one : Int)), some (.int (other : Int)), some (.ref p9), some (.ref kd), some (.bl gg), x7, x8, none] ∧ Same H H' ∧ H' p9 = some (.lst (nV L)) ∧ H' kd = some (.dK (dB c)) ∧ KB G wt other rs.length c ∧ (gg = false → ∀ x ∈ L, x ∈ c ∨ ∀ y ∈ bh G wt (other : Int) x, y ∉ c) := ⟨_, rfl⟩
    refine ⟨W, ⟨(rs.length - 1) + 1, by rw [hW]; exact ⟨[other], true, none, none, rfl, rfl, s6, e6, ekd, ⟨by simp, (fun x hx => by rw [List.mem_singleton.mp hx]; exact ho), by simp, fun x hx => by rw [List.mem_singleton.mp hx]; exact .refl⟩, fun z => (by cases z)⟩⟩, fun m σ H7 hw7 => ?_⟩
    have hw2 := hw7
    rw [hW] at hw2
    obtain ⟨c, gg, x7, x8, rfl, rfl, s7, e7, ek7, kb, fix⟩ := hw2
    have clen := nd_len kb.nd kb.lt
    cases gg with
    | false =>
      refine ⟨_, rfl, false, rfl, ?_⟩
      refine ⟨_, rfl, p9, rfl, ⟨_, sqL e7⟩, fun D nD => ?_⟩
      refine lc_st (walk_list (K := K) (a := p9) (xs := nV L)) (fun i acc H' => Same H7 H' ∧ acc = nV ((L.take i).filter (fun x => decide (x ∈ c)))) ⟨same_new nD, rfl⟩ (fun i acc _ _ H' _ ⟨s, e⟩ => ⟨same_mut s nD, e⟩) (fun i acc H' _ ⟨s, e⟩ => sqL (s _ _ e7)) (fun i acc H' hi ⟨s, e⟩ => ?_) (fun i xv acc H8 H9 hi eD ⟨s8, e⟩ ⟨eH, exv⟩ Qy Qn ky kn => ?_) (fun acc H8 eD ⟨s8, e⟩ => ?_)
      · rw [e, nV_len]
        have l1 : ((L.take i).filter (fun x => decide (x ∈ c))).length ≤ L.length := Nat.le_trans (List.length_filter_le _ _) (by rw [List.length_take]; omega)
        exact szl (by omega)
      · subst eH
        obtain ⟨y, ey, rfl⟩ := nV_get exv
        have et : L.take (i + 1) = L.take i ++ [y] := by rw [List.take_add_one, ey]; rfl
        refine ⟨rfl, _, rfl, _, rfl, kd, _, rfl, dgB (s8 _ _ ek7) y, _, rfl, ?_⟩
        rw [isS]
        by_cases z : y ∈ c
        · rw [decide_eq_true z]
          exact ⟨_, rfl, ky _ _ eD ⟨s8, by rw [et, List.filter_append, e, nV_app]; simp [z]; rfl⟩⟩
        · rw [decide_eq_false z]
          exact kn _ eD ⟨s8, by rw [et, List.filter_append, e]; simp [z]⟩
      · rw [nV_len, take_all] at e
        subst e
        refine q H8 D _ (s7.trans s8) (none_of s7 nD) eD (Nat.le_trans (List.length_filter_le _ _) Llen) (fun x => ?_)
        rw [List.mem_filter]
        constructor
        · rintro ⟨m1, m2⟩
          exact ⟨(Lm x).mp m1, kb.rc x (of_decide_eq_true m2)⟩
        · rintro ⟨r1, r2⟩
          refine ⟨(Lm x).mpr r1, decide_eq_true ?_⟩
          refine Rc.head r2 (fun a => Rc G wt (other : Int) one a → a ∈ c) (fun _ => kb.ot) (fun a b hb _ hp ha => ?_) r1
          rcases fix rfl a ((Lm a).mpr ha) with z | z
          · exact z
          · exact absurd (hp (.step ha hb)) (z b hb)
    | true =>
      refine ⟨_, rfl, true, rfl, fun σ' H' => ∃ m', m' < (rs.length - c.length) + 1 ∧ W m' σ' H', fun σ' H' h => h, ?_⟩
      have e7L := e7
      refine ⟨_, rfl, p9, _, rfl, sqL e7, for_it (walk_rev (K := K) (a := p9) (xs := nV L)) (fun j σ H' => ∃ (c' : List Nat) (gg : Bool) (x7 x8 : Option V), σ = [some (.ref p), some (.ref s), some (.int (one : Int)), some (.int (other : Int)), some (.ref p9), some (.ref kd), some (.bl gg), x7, x8, none] ∧ Same H H' ∧ H' p9 = some (.lst (nV L)) ∧ H' kd = some (.dK (dB c')) ∧ KB G wt other rs.length c' ∧ (gg = false → c' = c ∧ ∀ x ∈ L.reverse.take j, x ∈ c ∨ ∀ y ∈ bh G wt (other : Int) x, y ∉ c) ∧ (gg = true → c.length < c'.length))
        ⟨c, false, x7, x8, rfl, s7, e7, ek7, kb, fun _ => ⟨rfl, fun x hx => by simp at hx⟩, fun z => (by cases z)⟩ (fun i σ H' _ ⟨_, _, _, _, _, _, e, _⟩ => sqL e) ?_ ?_⟩
      · clear ek7 kb fix
        rintro j xv σ H8 H' hj ⟨c', gg, x7, x8, rfl, s8, e8, ek8, kb, gf, gt⟩ ⟨rfl, exv⟩
        obtain ⟨x, ex0, rfl⟩ := nV_get exv
        rw [nV_len] at ex0 hj
        have ex : L.reverse[j]? = some x := by rw [List.getElem?_reverse hj]; exact ex0
        have hxL : x ∈ L := List.mem_reverse.mp (List.mem_of_getElem? ex)
        have hxn := Llt x hxL
        have clen' := nd_len kb.nd kb.lt
        refine ⟨_, rfl, _, rfl, _, rfl, _, rfl, p, s, rs, G, wt, x, (other : Int), rfl, hs.same s8, hxn, fun H9 bl s9 nb eb => ?_⟩
        refine ⟨bl, rfl, ⟨_, sqL eb⟩, fun D nD => ?_⟩
        have s89 := s8.trans s9
        have ek9 := s9 _ _ ek8
        have e9 := s9 _ _ e8
        refine lc_st (walk_list (K := K) (a := bl) (xs := nV (bh G wt (other : Int) x))) (fun i acc H' => Same H9 H' ∧ acc = nV (((bh G wt (other : Int) x).take i).filter (fun y => decide (y ∈ c')))) ⟨same_new nD, rfl⟩ (fun i acc _ _ H' _ ⟨s, e⟩ => ⟨same_mut s nD, e⟩) (fun i acc H' _ ⟨s, e⟩ => sqL (s _ _ eb)) (fun i acc H' hi ⟨s, e⟩ => ?_) (fun i yv acc H10 H11 hi eD ⟨s10, e⟩ ⟨eH, eyv⟩ Qy Qn ky kn => ?_) (fun acc H10 eD ⟨s10, e⟩ => ?_)
        · rw [e, nV_len]
          have l1 : (((bh G wt (other : Int) x).take i).filter (fun y => decide (y ∈ c'))).length ≤ (bh G wt (other : Int) x).length := Nat.le_trans (List.length_filter_le _ _) (by rw [List.length_take]; omega)
          have l2 := nd_len (bh_nodup (wt := wt) (o := (other : Int)) gr hxn) (fun y hy => bh_lt gr hxn hy)
          exact szl (by omega)
        · subst eH
          obtain ⟨y, ey, rfl⟩ := nV_get eyv
          have et : (bh G wt (other : Int) x).take (i + 1) = (bh G wt (other : Int) x).take i ++ [y] := by rw [List.take_add_one, ey]; rfl
          refine ⟨rfl, _, rfl, _, rfl, kd, _, rfl, dgB (s10 _ _ ek9) y, _, rfl, ?_⟩
          rw [isS]
          by_cases z : y ∈ c'
          · rw [decide_eq_true z]
            exact ⟨_, rfl, ky _ _ eD ⟨s10, by rw [et, List.filter_append, e, nV_app]; simp [z]; rfl⟩⟩
          · rw [decide_eq_false z]
            exact kn _ eD ⟨s10, by rw [et, List.filter_append, e]; simp [z]⟩
        rw [nV_len, take_all] at e
        subst e
        have s810 := s89.trans s10
        have ek10 := s10 _ _ ek9
        have e10 := s10 _ _ e9
        obtain ⟨ah, hah⟩ : ∃ ah, ah = (bh G wt (other : Int) x).filter (fun y => decide (y ∈ c')) := ⟨_, rfl⟩
        rw [← hah] at eD
        have et : L.reverse.take (j + 1) = L.reverse.take j ++ [x] := by rw [List.take_add_one, ex]; rfl
        refine ⟨_, rfl, _, rfl, kd, _, rfl, dgB ek10 x, _, rfl, ?_⟩
        rw [isS]
        by_cases hxc : x ∈ c'
        · rw [decide_eq_true hxc]
          refine ⟨c', gg, _, _, rfl, s810, e10, ek10, kb, fun z => ⟨(gf z).1, fun w hw => ?_⟩, gt⟩
          rw [et] at hw
          rcases List.mem_append.mp hw with m | m
          · exact (gf z).2 w m
          · rw [List.mem_singleton.mp m]
            exact .inl ((gf z).1 ▸ hxc)
        · rw [decide_eq_false hxc]
          refine ⟨_, rfl, Nat.zero_le _, fun e0 ne0 => ?_⟩
          have t11 := same_new (o := .lst []) ne0
          have e011 : upd H10 e0 (.lst []) e0 = some (.lst []) := upd_same
          have eD11 := t11 _ _ eD
          have s11 := s810.trans t11
          have ek11 := t11 _ _ ek10
          have e11 := t11 _ _ e10
          generalize upd H10 e0 (.lst []) = H11 at *
          refine ne_nil eD11 e011 ⟨_, rfl, ite2 (fun z => ?_) (fun z => ?_)⟩
          · have hne : ah ≠ [] := by simpa using z
            obtain ⟨y, hy⟩ : ∃ y, y ∈ ah := by
              cases ah with
              | nil => exact absurd rfl hne
              | cons a b => exact ⟨a, by simp⟩
            rw [hah] at hy
            obtain ⟨y1, y2⟩ := List.mem_filter.mp hy
            have y3 : y ∈ c' := of_decide_eq_true y2
            refine ⟨_, rfl, _, rfl, kd, _, rfl, dpB ek11 (by omega) hxc, ?_⟩
            refine ⟨c' ++ [x], true, _, _, rfl, same_mut s11 nkd0, upd_at e11 (ne_of e11 ek11 (fun z => by cases z)), upd_same, ⟨?_, ?_, List.mem_append.mpr (.inl kb.ot), ?_⟩, fun z => (by cases z), fun _ => ?_⟩
            · refine List.nodup_append.mpr ⟨kb.nd, by simp, fun a ha b hb e => ?_⟩
              rw [List.mem_singleton.mp hb] at e
              exact hxc (e ▸ ha)
            · intro w hw
              rcases List.mem_append.mp hw with m | m
              · exact kb.lt w m
              · rw [List.mem_singleton.mp m]; exact hxn
            · intro w hw
              rcases List.mem_append.mp hw with m | m
              · exact kb.rc w m
              · rw [List.mem_singleton.mp m]
                exact (Rc.step .refl y1).trans (kb.rc y y3)
            · rw [List.length_append]
              show c.length < c'.length + 1
              cases gg with
              | true => have := gt rfl; omega
              | false => rw [(gf rfl).1]; omega
          · have hnil : ah = [] := by simpa using z
            refine ⟨c', gg, _, _, rfl, s11, e11, ek11, kb, fun z => ⟨(gf z).1, fun w hw => ?_⟩, gt⟩
            rw [et] at hw
            rcases List.mem_append.mp hw with m | m
            · exact (gf z).2 w m
            · rw [List.mem_singleton.mp m]
              refine .inr fun y hy hyc => ?_
              have : y ∈ ah := by
                rw [hah]
                exact List.mem_filter.mpr ⟨hy, decide_eq_true ((gf z).1 ▸ hyc)⟩
              rw [hnil] at this
              cases this
      · clear ek7 fix
        rintro σ H' ⟨c', gg, x7, x8, rfl, s8, e8, ek8, kb8, gf, gt⟩
        have clen' := nd_len kb8.nd kb8.lt
        refine ⟨(rs.length - c'.length) + (if gg = true then 1 else 0), ?_, ?_⟩
        · cases gg with
          | true => have := gt rfl; show _ + 1 < _; omega
          | false => rw [(gf rfl).1]; show _ + 0 < _; omega
        · rw [hW]
          refine ⟨c', gg, x7, x8, rfl, rfl, s8, e8, ek8, kb8, fun z x hx => ?_⟩
          obtain ⟨g1, g2⟩ := gf z
          rw [g1]
          refine g2 x ?_
          rw [nV_len, ← List.length_reverse, take_all]
          exact List.mem_reverse.mpr hx
end
end B65

end

section
set_option Elab.async false
set_option linter.all false
set_option maxRecDepth 100000
set_option maxHeartbeats 1000000
namespace B65
open PySem PySem.Spec PyProof.Rows L2
section
variable {P : Program} {w : World} {K : PySem.W.Frag} {mg : Str → Option Value} {base : Heap}
theorem LG.sb {d p s : Addr} {H H' : Hp} {rs : List Row} {G : Nat → List Edge} {wt : Nat → Bool} (b : SB d H H') (hd : DeckAt H d) (h0 : 0 < rs.length) (h : LG H p s rs G wt) : LG H' p s rs G wt := by
  obtain ⟨hp, a6, gr, hw⟩ := h
  refine ⟨hp.sb b hd, ?_, gr, hw⟩
  obtain ⟨ds, c1, c2, c3⟩ := a6
  obtain ⟨ns, en⟩ := hd
  have hsd : s ≠ d := fun z => by
    subst z
    rw [en] at c1
    cases ds with
    | nil => simp at c2; omega
    | cons d0 dr =>
      cases ns with
      | nil => cases c1
      | cons n0 nr => cases c1
  refine ⟨ds, b _ _ hsd c1, c2, fun i hi => ?_⟩
  obtain ⟨d0, es, v1, v2, kvs, v3, v4, v5⟩ := c3 i hi
  exact ⟨d0, es, v1, v2, kvs, b _ _ (ne_of v3 en (fun z => by cases z)) v3, v4, fun k e w => let ⟨t, w1, w2⟩ := v5 k e w; ⟨t, w1, b _ _ (ne_of w2 en (fun z => by cases z)) w2⟩⟩
/-- a whole way, drawn -/
structure WayD (G : Nat → List Edge) (wt : Nat → Bool) (n one other : Nat) (w : List Nat) : Prop where
  first : w[0]? = some one
  last : w.getLast? = some other
  ch : Chn (fun x y => y ∈ bh G wt (other : Int) x) w
  lt : ∀ x ∈ w, x < n
  len : w.length ≤ 1000
theorem closed_on {G : Nat → List Edge} {wt : Nat → Bool} {n one other k : Nat} {B : Int} {w9 : List Nat} {ps : List Price} (ok : PaperOk G wt n one other k B w9 ps) : ∀ {w : List Nat} {x : Nat}, w[0]? = some x → w.getLast? = some other → Chn (fun x y => y ∈ bh G wt (other : Int) x) w → (∀ z ∈ w, z < n) → ps[x]? = some .closed → False
  | [x], y, h1, h2, _, _, h3 => by
    cases h1
    have e : x = other := Option.some.inj h2
    subst e
    rw [ok.p2] at h3
    cases h3
  | x :: y :: r, z, h1, h2, hc, hl, h3 => by
    cases h1
    have hy := hc 0 x y rfl rfl
    obtain ⟨c1, ⟨e, e1, e2⟩, c3⟩ := bh_mem.mp hy
    have q := ok.rk x (hl x (by simp)) _ h3 e e1 (by rw [e2]; exact c3)
    rw [e2] at q
    exact closed_on ok (w := y :: r) rfl (by rw [List.getLast?_cons_cons] at h2; exact h2) (fun i a b u v => hc (i + 1) a b (by simpa using u) (by simpa using v)) (fun z hz => hl z (List.mem_cons.mpr (.inr hz))) q
theorem price_on {G : Nat → List Edge} {wt : Nat → Bool} {n one other k : Nat} {B : Int} {w9 : List Nat} {ps : List Price} (g : GraOk G n) (ok : PaperOk G wt n one other k B w9 ps) : ∀ {w : List Nat} {x : Nat} {v : Int}, w[0]? = some x → w.getLast? = some other → Chn (fun x y => y ∈ bh G wt (other : Int) x) w → (∀ z ∈ w, z < n) → ps[x]? = some (.int v) → (k = 0 → B ≤ v + wsum G k w) ∧ (k ≠ 0 → v + wsum G k w ≤ B)
  | [x], y, v, h1, h2, _, _, h3 => by
    cases h1
    have e : x = other := Option.some.inj h2
    subst e
    rw [ok.p2] at h3
    cases h3
    have : wsum G k [x] = 0 := rfl
    rw [this]
    omega
  | x :: y :: r, z, v, h1, h2, hc, hl, h3 => by
    cases h1
    have hy := hc 0 x y rfl rfl
    obtain ⟨c1, ⟨e, e1, e2⟩, c3⟩ := bh_mem.mp hy
    have hxn := hl x (by simp)
    have hn : x ≠ other := by omega
    obtain ⟨q, q1, q2⟩ := (ok.rk x hxn _ h3).resolve_left hn e e1 (by rw [e2]; exact c3)
    rw [e2] at q1
    have tl : (y :: r).getLast? = some other := by rw [List.getLast?_cons_cons] at h2; exact h2
    have tc : Chn (fun x y => y ∈ bh G wt (other : Int) x) (y :: r) := fun i a b u v => hc (i + 1) a b (by simpa using u) (by simpa using v)
    have tn : ∀ z ∈ y :: r, z < n := fun z hz => hl z (List.mem_cons.mpr (.inr hz))
    have ew9 : ew G x y = e.2 := by rw [← e2]; exact ew_eq g.toGrOk hxn e1
    have es : wsum G k (x :: y :: r) = pk k e.2 + wsum G k (y :: r) := by
      rw [← ew9]
      unfold wsum wsOf
      rw [List.drop_succ_cons, List.drop_zero, List.zipWith_cons_cons, List.sum_cons]
      rfl
    cases q with
    | no => exact absurd q2 id
    | closed => exact (closed_on ok (w := y :: r) rfl tl tc tn q1).elim
    | int u =>
      obtain ⟨i1, i2⟩ := price_on g ok (w := y :: r) (v := u) rfl tl tc tn q1
      rw [es]
      constructor
      · intro hk
        have a := i1 hk
        have b : u ≤ v + pk k e.2 := by
          have this : (if k = 0 then u ≤ v + pk k e.2 else v + pk k e.2 ≤ u) := q2
          rw [if_pos hk] at this
          exact this
        omega
      · intro hk
        have a := i2 hk
        have b : v + pk k e.2 ≤ u := by
          have this : (if k = 0 then u ≤ v + pk k e.2 else v + pk k e.2 ≤ u) := q2
          rw [if_neg hk] at this
          exact this
        omega
theorem WayD.sum {G : Nat → List Edge} {wt : Nat → Bool} {n one other k : Nat} {B : Int} {w9 w : List Nat} {ps : List Price} (g : GraOk G n) (ok : PaperOk G wt n one other k B w9 ps) (h : WayD G wt n one other w) : (k = 0 → B ≤ wsum G k w) ∧ (k ≠ 0 → wsum G k w ≤ B) := by
  obtain ⟨a, b⟩ := price_on g ok h.first h.last h.ch h.lt ok.p1
  exact ⟨fun z => by have := a z; omega, fun z => by have := b z; omega⟩
def sp_law_drawn_way (K : PySem.W.Frag) : Sp := fun vs H Q _ => ∃ (d p s kl : Addr) (rs : List Row) (G : Nat → List Edge) (wt : Nat → Bool) (one other : Nat) (kp : List Nat), vs = [.ref d, .ref p, .ref s, .ref kl, .int (one : Int), .int (other : Int)] ∧ DeckAt H d ∧ LG H p s rs G wt ∧ H kl = some (.lst (nV kp)) ∧ kl ≠ d ∧ one < rs.length ∧ (∀ x, x ∈ kp ↔ Rc G wt (other : Int) one x ∧ Rc G wt (other : Int) x other) ∧ Rc G wt (other : Int) one other ∧ ∀ H' l w, SB d H H' → DeckAt H' d → H l = none → H' l = some (.lst (nV w)) → WayD G wt rs.length one other w → Q (.ref l) H'
theorem sc__law_drawn_way : FnScope ["_law_deck_here", "_law_program", "_law_steps_here", "_law_kept_here", "_law_one", "_law_other", "_law_way_here", "_law_k", "_law_ends", "_law_row"] ["_law_deck_here", "_law_program", "_law_steps_here", "_law_kept_here", "_law_one", "_law_other"] (defScope (topS 91)) := ⟨rfl, rfl, rfl, by decide +kernel, rfl, by decide +kernel, by decide +kernel⟩
theorem ok__law_drawn_way (T : Txt K mg) : Ok P w K mg base 4 "_law_drawn_way" ["_law_deck_here", "_law_program", "_law_steps_here", "_law_kept_here", "_law_one", "_law_other"] (sp_law_drawn_way K) := by
  obtain ⟨fd, F⟩ := T.d__law_drawn_way
  obtain ⟨fd_lbehind, G_lbehind, kp_lbehind, b_lbehind⟩ := ok__law_behind (P := P) (w := w) (base := base) T
  obtain ⟨fd_lnext, G_lnext, kp_lnext, b_lnext⟩ := ok__law_next (P := P) (w := w) (base := base) T
  obtain ⟨fd_lway, G_lway, kp_lway, b_lway⟩ := ok__law_way (P := P) (w := w) (base := base) T
  refine ⟨fd, F.ok sc__law_drawn_way (fun vs H Q E h => ?_) (fun cdv A outer s H vs Q E hr h => ?_), F.kp, F.bindsN fun _ _ _ _ _ _ us hl => match us, hl with | [_, _, _, _, _, _], _ => rfl⟩
  · obtain ⟨d, p, s, kl, rs, G, wt, one, other, kp, rfl, _⟩ := h
    rfl
  · obtain ⟨d, p, s, kl, rs, G, wt, one, other, kp, rfl, hd, hs, hkl, nekl, h1, km, hrc, q⟩ := h
    have hu := hu_of hr
    refine ⟨_, PSs.nox (pss_cons (ps_set (i := 6) sc__law_drawn_way.nd rfl (by first | exact Or.inl rfl | exact Or.inr rfl) (pe_lst (pa_cons (pv 4) pa_nil)))
      (pss_cons (ps_for PassesOwn.never rfl (pi_range1 (by rfl) T.z_range (pa_cons pe_int pa_nil)) (pg_name (i := 7) sc__law_drawn_way.nd rfl (by first | exact Or.inl rfl | exact Or.inr rfl))
      (pss_cons (ps_setLc (i := 8) (own := [("_law_row", 9)]) rfl sc__law_drawn_way.nd rfl rfl (sw_true rfl rfl rfl (by decide +kernel)) (pi_list (pe_call G_lbehind (hr.mono (by decide)) (by rfl) T.g__law_behind kp_lbehind b_lbehind .nil pass0 (pa_cons (pv 1) (pa_cons (pv 2) (pa_cons (pe_ix ix_list (pv 6) (pe_un un_neg pe_int) (fun _ _ => rfl)) (pa_cons (pv 5) pa_nil)))))) (blkOk_by (N := ["_law_deck_here", "_law_program", "_law_steps_here", "_law_kept_here", "_law_one", "_law_other", "_law_way_here", "_law_k", "_law_ends", "_law_row"]) (sc := defScope (topS 91)) (by decide +kernel)) (fun _ _ _ _ _ => (pg_name (i := 9) sc__law_drawn_way.nd rfl (by first | exact Or.inl rfl | exact Or.inr rfl))) (fun _ _ _ _ _ => (pts_one (pt_cmpR (r := rIn K false) op_in_seq (pv 9) (pv 3) (by rfl)))) (fun _ _ _ _ _ => (pv 9)))
      (pss_one (ps_if (pt_cmpR op_ne (pe_ix ix_list (pv 6) (pe_un un_neg pe_int) (fun _ _ => rfl)) (pv 5) (nomark _))
      (pss_one (ps_expr (pe_bm PySem.F.plainAttrs_list PySem.F.slot_list_append PySem.F.type_list_append mt_append (pv 6) (pa_cons (pe_ix ix_list (pv 8) (pe_op op_mod (pe_call G_lnext (hr.mono (by decide)) (by rfl) T.g__law_next kp_lnext b_lnext .nil pass0 (pa_cons (pv 0) pa_nil)) (pe_callB call_len_seq (by rfl) T.z_len (by decide +kernel) (pa_cons (pv 8) pa_nil))) (fun _ _ => rfl)) pa_nil))))
      pss_nil))))
      (pss_one (ps_ret (pe_op op_cat (pe_slice sl_list (pv 6) po_none (po_some (pe_un un_neg pe_int))) (pe_call G_lway hr (by rfl) T.g__law_way kp_lway b_lway .nil pass0 (pa_cons (pv 1) (pa_cons (pv 2) (pa_cons (pe_ix ix_list (pv 6) (pe_un un_neg pe_int) (fun _ _ => rfl)) (pa_cons (pv 5) (pa_cons (pv 5) pa_nil))))))))))), ?_⟩
    obtain ⟨hp, a6, gr, hw⟩ := id hs
    have n120 := gr.n120
    have h0 : 0 < rs.length := by omega
    refine ⟨_, rfl, by show 1 ≤ sizeLine; decide, fun l nl => ?_⟩
    have nel := hd.ne nl
    have s1 := same_new (o := .lst [V.int (one : Int)]) nl
    have el1 : upd H l (.lst [V.int (one : Int)]) l = some (.lst (nV [one])) := upd_same
    have b1 := SB.of (d := d) s1
    have hd1 := hd.same s1
    have hkl1 := s1 _ _ hkl
    have lkl := ne_of_none hkl nl
    generalize upd H l (.lst [V.int (one : Int)]) = H1 at *
    refine ⟨_, rfl, by decide, by decide, for_it walk_rng (fun i σ H' => ∃ (c : List Nat) (x : Nat) (x7 x8 : Option V), σ = [some (.ref d), some (.ref p), some (.ref s), some (.ref kl), some (.int (one : Int)), some (.int (other : Int)), some (.ref l), x7, x8, none] ∧ SB d H H' ∧ DeckAt H' d ∧ H' l = some (.lst (nV c)) ∧ H' kl = some (.lst (nV kp)) ∧ c.length ≤ i + 1 ∧ c[0]? = some one ∧ c.getLast? = some x ∧ Chn (fun x y => y ∈ bh G wt (other : Int) x) c ∧ Rc G wt (other : Int) one x ∧ Rc G wt (other : Int) x other ∧ ∀ z ∈ c, z < rs.length)
      ⟨[one], one, none, none, rfl, b1, hd1, el1, hkl1, Nat.le_refl _, rfl, rfl, Chn.one one, .refl, hrc, fun z hz => by rw [List.mem_singleton.mp hz]; exact h1⟩ (fun _ _ _ _ _ => trivial) ?_ ?_⟩
    · clear b1 hd1 el1 hkl1 s1
      rintro i xv σ H9 H2 hi ⟨c, x, x7, x8, rfl, b2, hd2, el2, hkl2, clen, c0, cl, cc, r1, r2, clt⟩ ⟨rfl, rfl⟩
      have hi60 : i < 60 := hi
      have hxn := Rc.lt gr h1 r1
      have hs2 := hs.sb b2 hd h0
      refine ⟨_, rfl, _, rfl, _, rfl, 1, rfl, l, _, _, _, rfl, rfl, sqL el2, at_last cl, _, rfl, p, s, rs, G, wt, x, (other : Int), rfl, hs2, hxn, fun H3 bl s3 nb eb => ?_⟩
      refine ⟨bl, rfl, ⟨_, sqL eb⟩, fun D nD => ?_⟩
      have neD := (hd2.same s3).ne nD
      refine lc_st (walk_list (K := K) (a := bl) (xs := nV (bh G wt (other : Int) x))) (fun i acc H' => Same H3 H' ∧ acc = nV (((bh G wt (other : Int) x).take i).filter (fun y => decide (y ∈ kp)))) ⟨same_new nD, rfl⟩ (fun i acc _ _ H' _ ⟨s, e⟩ => ⟨same_mut s nD, e⟩) (fun i acc H' _ ⟨s, e⟩ => sqL (s _ _ eb)) (fun i acc H' hi ⟨s, e⟩ => ?_) (fun i yv acc H10 H11 hi eD ⟨s10, e⟩ ⟨eH, eyv⟩ Qy Qn ky kn => ?_) (fun acc H4 eD ⟨s4, e⟩ => ?_)
      · rw [e, nV_len]
        have l1 : (((bh G wt (other : Int) x).take i).filter (fun y => decide (y ∈ kp))).length ≤ (bh G wt (other : Int) x).length := Nat.le_trans (List.length_filter_le _ _) (by rw [List.length_take]; omega)
        have l2 := nd_len (bh_nodup (wt := wt) (o := (other : Int)) gr hxn) (fun y hy => bh_lt gr hxn hy)
        exact szl (by omega)
      · subst eH
        obtain ⟨y, ey, rfl⟩ := nV_get eyv
        have et : (bh G wt (other : Int) x).take (i + 1) = (bh G wt (other : Int) x).take i ++ [y] := by rw [List.take_add_one, ey]; rfl
        refine ⟨rfl, _, rfl, _, rfl, kl, _, rfl, .inl (sqL ((s3.trans s10) _ _ hkl2)), rfl, by rw [nV_int]; exact flat_ints _, _, rfl, ?_⟩
        rw [show (if false = true then !inV (V.int (y : Int)) (nV kp) else inV (V.int (y : Int)) (nV kp)) = decide (y ∈ kp) from in_nV y kp]
        by_cases z : y ∈ kp
        · rw [decide_eq_true z]
          exact ⟨_, rfl, ky _ _ eD ⟨s10, by rw [et, List.filter_append, e, nV_app]; simp [z]; rfl⟩⟩
        · rw [decide_eq_false z]
          exact kn _ eD ⟨s10, by rw [et, List.filter_append, e]; simp [z]⟩
      rw [nV_len, take_all] at e
      subst e
      obtain ⟨en, hen⟩ : ∃ en, en = (bh G wt (other : Int) x).filter (fun y => decide (y ∈ kp)) := ⟨_, rfl⟩
      rw [← hen] at eD
      have s34 := s3.trans s4
      have b4 := b2.trans (SB.of (d := d) s34)
      have hd4 := hd2.same s34
      have el4 := s34 _ _ el2
      have hkl4 := s34 _ _ hkl2
      refine ⟨_, rfl, 1, rfl, l, _, _, _, rfl, rfl, sqL el4, at_last cl, _, rfl, rfl, _, rfl, ?_⟩
      rw [ne_bl]
      refine ite2 (fun z => ?_) (fun z => ?_)
      · have hxo : x ≠ other := by simpa using z
        have epos : 0 < en.length := by
          rcases r2.first with w | ⟨y, y1, y2⟩
          · exact absurd w hxo
          · refine List.length_pos_of_mem (a := y) ?_
            rw [hen]
            exact List.mem_filter.mpr ⟨y1, decide_eq_true ((km y).mpr ⟨.step r1 y1, y2⟩)⟩
        refine ⟨_, rfl, .inl ⟨rfl, _, sqL el4⟩, _, rfl, _, rfl, d, rfl, hd4, fun H5 yy s5 hd5 => ?_⟩
        have eD5 := s5.lst neD eD
        have el5 := s5.lst nel el4
        have hkl5 := s5.lst nekl hkl4
        obtain ⟨k, k1, k2⟩ := mod_lt_len (x := yy) epos
        have hym := List.getElem_mem k2
        have eym : en[k]? = some en[k] := List.getElem?_eq_getElem k2
        generalize en[k] = y at *
        rw [hen] at hym
        obtain ⟨m1, m2⟩ := List.mem_filter.mp hym
        obtain ⟨m3, m4⟩ := (km y).mp (of_decide_eq_true m2)
        refine ⟨_, rfl, D, _, rfl, .inl (sqL eD5), _, _, rfl, rfl, (by show (0 : Int) < ((nV en).length : Int); rw [nV_len]; omega), D, _, _, _, rfl, rfl, sqL eD5, (by show atI (nV en) (yy % ((nV en).length : Int)) = _; rw [nV_len, k1]; exact atI_nat (nV_at eym)), l, _, _, rfl, rfl, el5, by rw [nV_len]; exact szl (by omega), ?_⟩
        refine ⟨c ++ [y], y, _, _, rfl, sb_mut (b4.trans s5) nl, hd5.up2 nel, by rw [upd_same, nV_app]; rfl, upd_at hkl5 lkl, by rw [List.length_append]; exact Nat.succ_le_succ clen, by rw [List.getElem?_append_left (List.getElem?_eq_some_iff.mp c0).1]; exact c0, by simp, cc.add cl m1, m3, m4, fun w hw => ?_⟩
        rcases List.mem_append.mp hw with u | u
        · exact clt w u
        · rw [List.mem_singleton.mp u]
          exact Rc.lt gr h1 m3
      · exact ⟨c, x, _, _, rfl, b4, hd4, el4, hkl4, by omega, c0, cl, cc, r1, r2, clt⟩
    · clear b1 hd1 el1 hkl1 s1
      rintro σ H2 ⟨c, x, x7, x8, rfl, b2, hd2, el2, hkl2, clen, c0, cl, cc, r1, r2, clt⟩
      have clen' : c.length ≤ 61 := clen
      have hxn := Rc.lt gr h1 r1
      refine ⟨_, rfl, 1, rfl, _, rfl, l, _, rfl, sqL el2, fun l3 nl3 => ?_⟩
      rw [show cutV (nV c) none (some (-1)) = nV (c.take (c.length - 1)) by rw [cut_init, nV_len, nV_take]]
      have s3 := same_new (o := .lst (nV (c.take (c.length - 1)))) nl3
      have el3 : upd H2 l3 (.lst (nV (c.take (c.length - 1)))) l3 = some (.lst (nV (c.take (c.length - 1)))) := upd_same
      have el2' := s3 _ _ el2
      have b3 := b2.trans (SB.of (d := d) s3)
      have hd3 := hd2.same s3
      generalize upd H2 l3 (.lst (nV (c.take (c.length - 1)))) = H3 at *
      refine ⟨_, rfl, _, rfl, _, rfl, 1, rfl, l, _, _, _, rfl, rfl, sqL el2', at_last cl, _, rfl, _, rfl, p, s, rs, G, wt, x, other, (other : Int), rfl, hs.sb b3 hd h0, hxn, r2, fun H4 l4 w s4 nl4 el4 wk => ?_⟩
      have wl := wk.len
      have b4 := b3.trans (SB.of (d := d) s4)
      have hd4 := hd3.same s4
      refine ⟨l3, l4, _, _, rfl, rfl, s4 _ _ el3, el4, sz (by rw [nV_len, nV_len, List.length_take]; omega), fun pp npp => ?_⟩
      have s5 := same_new (o := .lst (nV (c.take (c.length - 1)) ++ nV w)) npp
      have ew9 : c.take (c.length - 1) ++ w = c ++ w.drop 1 := by
        obtain ⟨l0, rfl⟩ : ∃ l0, c = l0 ++ [x] := List.getLast?_eq_some_iff.mp cl
        cases w with
        | nil => have := wk.first; cases this
        | cons a r =>
          have : a = x := Option.some.inj wk.first
          subst this
          simp
      refine q _ pp (c ++ w.drop 1) (b4.trans (SB.of s5)) (hd4.same s5) (b4.nn hd4 npp) (by rw [upd_same, ← nV_app, ew9]) ⟨?_, ?_, ?_, ?_, by rw [List.length_append, List.length_drop]; omega⟩
      · rw [List.getElem?_append_left (List.getElem?_eq_some_iff.mp c0).1]
        exact c0
      · rw [← ew9, List.getLast?_append, wk.last]
        rfl
      · cases w with
        | nil => have := wk.first; cases this
        | cons a r =>
          have : a = x := Option.some.inj wk.first
          subst this
          exact cc.app cl wk.ch
      · intro z hz
        rcases List.mem_append.mp hz with u | u
        · exact clt z u
        · exact wk.lt z (List.mem_of_mem_drop u)
end
end B65

end

section
set_option Elab.async false
set_option linter.all false
set_option maxRecDepth 100000
set_option maxHeartbeats 1000000
namespace B65
open PySem PySem.Spec PyProof.Rows L2
section
variable {P : Program} {w : World} {K : PySem.W.Frag} {mg : Str → Option Value} {base : Heap}
theorem wsum_cons (G : Nat → List Edge) (k x y : Nat) (r : List Nat) : wsum G k (x :: y :: r) = pk k (ew G x y) + wsum G k (y :: r) := by
  unfold wsum wsOf
  rw [List.drop_succ_cons, List.drop_zero, List.zipWith_cons_cons, List.sum_cons]
  rfl
theorem wsum_one (G : Nat → List Edge) (k x : Nat) : wsum G k [x] = 0 := rfl
theorem wsum_split (G : Nat → List Edge) (k : Nat) {R : List Nat} {x : Nat} (h : R[0]? = some x) : ∀ A : List Nat, wsum G k (A ++ R) = wsum G k (A ++ [x]) + wsum G k R
  | [] => by
    show wsum G k R = wsum G k [x] + wsum G k R
    rw [wsum_one]
    omega
  | [a] => by
    cases R with
    | nil => cases h
    | cons y r =>
      have e : y = x := Option.some.inj h
      subst e
      show wsum G k (a :: y :: r) = wsum G k [a, y] + _
      rw [wsum_cons, wsum_cons, wsum_one]
      omega
  | a :: b :: A => by
    show wsum G k (a :: b :: (A ++ R)) = wsum G k (a :: b :: (A ++ [x])) + _
    rw [wsum_cons, wsum_cons]
    have q := wsum_split G k h (b :: A)
    have q' : wsum G k (b :: (A ++ R)) = wsum G k (b :: (A ++ [x])) + wsum G k R := q
    rw [q']
    omega
theorem wsum_pos {G : Nat → List Edge} {n k : Nat} (g : GraOk G n) : ∀ {w : List Nat}, 2 ≤ w.length → (∀ x ∈ w, x < n) → Chn (InE G) w → 0 < wsum G k w
  | [x, y], _, hl, hc => by
    obtain ⟨e, e1, e2⟩ := hc 0 x y rfl rfl
    have hx := hl x (by simp)
    obtain ⟨_, b1, b2, b3⟩ := g.ed x hx e e1
    rw [wsum_cons, wsum_one, ← e2, ew_eq g.toGrOk hx e1]
    unfold pk
    split <;> omega
  | x :: y :: z :: r, _, hl, hc => by
    obtain ⟨e, e1, e2⟩ := hc 0 x y rfl rfl
    have hx := hl x (by simp)
    obtain ⟨_, b1, b2, b3⟩ := g.ed x hx e e1
    have q := wsum_pos (k := k) g (w := y :: z :: r) (by simp) (fun v hv => hl v (List.mem_cons.mpr (.inr hv))) (fun i a b u v => hc (i + 1) a b (by simpa using u) (by simpa using v))
    rw [wsum_cons, ← e2, ew_eq g.toGrOk hx e1]
    rw [← e2] at q
    unfold pk at *
    split at * <;> omega
/-- a way with a round gone m times -/
def rnd (w u : List Nat) (at_ m : Nat) : List Nat := (List.replicate m (u.take (u.length - 1))).flatten ++ w.drop at_
theorem rnd_succ (w u : List Nat) (at_ m : Nat) : rnd w u at_ (m + 1) = u.take (u.length - 1) ++ rnd w u at_ m := by
  unfold rnd
  rw [List.replicate_succ, List.flatten_cons, List.append_assoc]
theorem mid_at {w : List Nat} {i z : Nat} (h1 : 1 ≤ i) (h2 : i + 1 < w.length) (e : w[i]? = some z) : z ∈ (w.drop 1).take (w.length - 2) := by
  refine List.mem_iff_getElem?.mpr ⟨i - 1, ?_⟩
  rw [List.getElem?_take, if_pos (by omega), List.getElem?_drop, show 1 + (i - 1) = i by omega]
  exact e
structure RndOk (G : Nat → List Edge) (wt : Nat → Bool) (n one other : Nat) (W : List Nat) : Prop where
  lt : ∀ x ∈ W, x < n
  ch : Chn (InE G) W
  first : W[0]? = some one
  last : W.getLast? = some other
  mid : ∀ x ∈ (W.drop 1).take (W.length - 2), wt x = false ∧ x ≠ other
theorem rnd_ok {G : Nat → List Edge} {wt : Nat → Bool} {n one other at_ x : Nat} {w u : List Nat} (g : GraOk G n) (ne : one ≠ other) (hw : WayOk G wt n one other w) (hu : TurnOk G wt n other w u) (hx : u[0]? = some x) (hat : w[at_]? = some x) :
    (∀ m, (rnd w u at_ m)[0]? = some x) ∧ (∀ m, RndOk G wt n one other (w.take at_ ++ rnd w u at_ m)) ∧ (∀ m, wsum G 0 (w.take at_ ++ rnd w u at_ m) < wsum G 0 (w.take at_ ++ rnd w u at_ (m + 1))) ∧ 0 < wsum G 0 (w.take at_ ++ rnd w u at_ 0) := by
  obtain ⟨x', x1, x2, x3⟩ := hu.ends
  rw [hx] at x1
  cases x1
  have hul := hu.two
  have hal := (List.getElem?_eq_some_iff.mp hat).1
  have xo := (hu.mid x (List.mem_of_getElem? hx)).2
  have hul' : (u.take (u.length - 1))[0]? = some x := by rw [List.getElem?_take, if_pos (by omega)]; exact hx
  have ulast : u = u.take (u.length - 1) ++ [x] := by
    obtain ⟨l0, rfl⟩ : ∃ l0, u = l0 ++ [x] := List.getLast?_eq_some_iff.mp x2
    simp
  have first : ∀ m, (rnd w u at_ m)[0]? = some x := by
    intro m
    cases m with
    | zero =>
      show (w.drop at_)[0]? = some x
      rw [List.getElem?_drop]
      exact hat
    | succ m =>
      rw [rnd_succ, List.getElem?_append_left (List.getElem?_eq_some_iff.mp hul').1]
      exact hul'
  have app : ∀ {A R : List Nat}, Chn (InE G) (A ++ [x]) → Chn (InE G) R → R[0]? = some x → Chn (InE G) (A ++ R) := by
    intro A R c1 c2 h
    cases R with
    | nil => cases h
    | cons y r =>
      have e : y = x := Option.some.inj h
      subst e
      have := c1.app (by simp) c2
      rw [List.append_assoc] at this
      exact this
  have wA : w.take at_ ++ [x] = w.take (at_ + 1) := by rw [List.take_add_one, hat]; rfl
  have cR : ∀ m, Chn (InE G) (rnd w u at_ m) := by
    intro m
    induction m with
    | zero =>
      intro i a b h1 h2
      change (w.drop at_)[i]? = some a at h1
      change (w.drop at_)[i + 1]? = some b at h2
      rw [List.getElem?_drop] at h1 h2
      exact hw.ch (at_ + i) a b h1 (by rw [Nat.add_assoc]; exact h2)
    | succ m ih =>
      rw [rnd_succ]
      exact app (by rw [← ulast]; exact hu.ch) ih (first m)
  have sR : ∀ m, wsum G 0 (rnd w u at_ (m + 1)) = wsum G 0 u + wsum G 0 (rnd w u at_ m) := by
    intro m
    rw [rnd_succ, wsum_split G 0 (first m), ← ulast]
  have up := wsum_pos (k := 0) g hu.two hu.lt hu.ch
  have lastW : ∀ m, (rnd w u at_ m).getLast? = some other := by
    intro m
    unfold rnd
    rw [List.getLast?_append, List.getLast?_drop, if_neg (by omega), hw.last]
    rfl
  have memR : ∀ m z, z ∈ (List.replicate m (u.take (u.length - 1))).flatten → z ∈ u := by
    intro m z hz
    obtain ⟨l, l1, l2⟩ := List.mem_flatten.mp hz
    rw [List.eq_of_mem_replicate l1] at l2
    exact List.mem_of_mem_take l2
  refine ⟨first, fun m => ⟨fun z hz => ?_, ?_, ?_, ?_, fun z hz => ?_⟩, fun m => ?_, ?_⟩
  · rcases List.mem_append.mp hz with h | h
    · exact hw.lt z (List.mem_of_mem_take h)
    · rcases List.mem_append.mp h with h | h
      · exact hu.lt z (memR m z h)
      · exact hw.lt z (List.mem_of_mem_drop h)
  · exact app (by rw [wA]; exact hw.ch.take _) (cR m) (first m)
  · by_cases h0 : at_ = 0
    · subst h0
      rw [hw.first] at hat
      cases hat
      show (rnd w u 0 m)[0]? = _
      exact first m
    · rw [List.getElem?_append_left (by rw [List.length_take]; omega), List.getElem?_take, if_pos (by omega)]
      exact hw.first
  · rw [List.getLast?_append, lastW m]
    rfl
  · obtain ⟨i, hi, e⟩ := List.mem_iff_getElem.mp hz
    have e2 : (((w.take at_ ++ rnd w u at_ m).drop 1).take ((w.take at_ ++ rnd w u at_ m).length - 2))[i]? = some z := by rw [List.getElem?_eq_getElem hi, e]
    rw [List.getElem?_take] at e2
    split at e2
    · rename_i hi2
      rw [List.getElem?_drop] at e2
      have lA : (w.take at_).length = at_ := by rw [List.length_take]; omega
      by_cases c1 : 1 + i < at_
      · rw [List.getElem?_append_left (by omega), List.getElem?_take, if_pos c1] at e2
        exact hw.mid z (mid_at (by omega) (by omega) e2)
      · rw [List.getElem?_append_right (by omega), lA] at e2
        have lR : (w.take at_ ++ rnd w u at_ m).length = at_ + ((List.replicate m (u.take (u.length - 1))).flatten.length + (w.length - at_)) := by
          rw [List.length_append, lA]
          unfold rnd
          rw [List.length_append, List.length_drop]
        by_cases c2 : 1 + i - at_ < (List.replicate m (u.take (u.length - 1))).flatten.length
        · unfold rnd at e2
          rw [List.getElem?_append_left c2] at e2
          exact hu.mid z (memR m z (List.mem_of_getElem? e2))
        · unfold rnd at e2
          rw [List.getElem?_append_right (by omega), List.getElem?_drop] at e2
          rw [lR] at hi2
          generalize (List.replicate m (u.take (u.length - 1))).flatten.length = q at *
          by_cases c3 : at_ + (1 + i - at_ - q) = 0
          · rw [c3] at e2
            have h0 : at_ = 0 := by omega
            subst h0
            rw [hat] at e2
            cases e2
            exact hu.mid x (List.mem_of_getElem? hx)
          · exact hw.mid z (mid_at (by omega) (by omega) e2)
    · cases e2
  · rw [wsum_split G 0 (first m), wsum_split G 0 (first (m + 1)), sR]
    omega
  · have : w.take at_ ++ rnd w u at_ 0 = w := by
      show w.take at_ ++ w.drop at_ = w
      exact List.take_append_drop _ _
    rw [this]
    exact wsum_pos g hw.two hw.lt hw.ch

end
end B65

end

section
set_option Elab.async false
set_option linter.all false
set_option maxRecDepth 100000
set_option maxHeartbeats 1000000
namespace B65
open PySem PySem.Spec PyProof.Rows L2
section
variable {P : Program} {w : World} {K : PySem.W.Frag} {mg : Str → Option Value} {base : Heap}
theorem catA {H : Hp} {Q : VK} {a b : Addr} {xs ys : List V} (ha : SqT K H a xs) (hb : SqT K H b ys) (hz : xs.length + ys.length ≤ sizeLine) (k : ∀ p H', Same H H' → SqT K H' p (xs ++ ys) → Q (.ref p) H') : rCatA K (.ref a) (.ref b) H Q :=
  ⟨a, b, xs, ys, rfl, rfl, ha, hb, hz, fun z => k b H (Same.refl _) (by rw [z]; exact hb), fun _ z => k a H (Same.refl _) (by rw [z, List.append_nil]; exact ha), fun _ _ p np => k p _ (same_new np) (sqT upd_same)⟩
theorem repA {H : Hp} {Q : VK} {l : Addr} {xs : List V} {m : Nat} (hl : SqT K H l xs) (hne : xs ≠ []) (hm : m ≤ 1000) (hx : xs.length ≤ 1000) (k : ∀ p H', Same H H' → SqT K H' p (List.replicate m xs).flatten → Q (.ref p) H') : R65.rRepTA K (.ref l) (.int (m : Int)) H Q :=
  ⟨l, _, xs, rfl, rfl, hl, hne, by omega, by omega, hx, fun z => k l H (Same.refl _) (by rw [show m = 1 by omega]; simpa using hl), fun _ p np => k p _ (same_new np) (by rw [show ((m : Nat) : Int).toNat = m from rfl]; exact sqT upd_same)⟩
theorem nV_rep (m : Nat) (l : List Nat) : (List.replicate m (nV l)).flatten = nV (List.replicate m l).flatten := by
  unfold nV
  rw [List.map_flatten, List.map_replicate]
def sp_law_paper (K : PySem.W.Frag) : Sp := fun vs H Q _ => ∃ (t : Addr) (xs : List V) (m : Nat), vs = [.ref t, .int (m : Int)] ∧ SqT K H t xs ∧ xs.length = m ∧ m ≤ 100 ∧ (∀ x ∈ xs, (∃ i, x = .int i) ∨ ∃ a ys, x = .ref a ∧ SqT K H a ys) ∧ ∀ H', Same H H' → Q (.bl true) H'
theorem sc__law_paper : FnScope ["_law_found", "_law_many", "_law_one"] ["_law_found", "_law_many"] (defScope (topS 92)) := ⟨rfl, rfl, rfl, by decide +kernel, rfl, by decide +kernel, by decide +kernel⟩
theorem ok__law_paper (T : Txt K mg) : Ok P w K mg base 1 "_law_paper" ["_law_found", "_law_many"] (sp_law_paper K) := by
  obtain ⟨fd, F⟩ := T.d__law_paper
  refine ⟨fd, F.ok sc__law_paper (fun vs H Q E h => ?_) (fun cdv A outer s H vs Q E hr h => ?_), F.kp, F.bindsN fun _ _ _ _ _ _ us hl => match us, hl with | [_, _], _ => rfl⟩
  · obtain ⟨t, xs, m, rfl, _⟩ := h
    rfl
  · obtain ⟨t, xs, m, rfl, ht, hl, hm, hx, q⟩ := h
    have hu := hu_of hr
    refine ⟨_, PSs.nox (pss_cons (ps_if (PW.pt (pw_or (pt_not (pt_val (pe_callB call_isi (by rfl) T.z_isinstance (by decide +kernel) (pa_cons (pv 0) (pa_cons (pe_bltn (v := .ty "tuple") (by rfl) T.z_tuple (by decide +kernel) rfl) pa_nil))))) (pw_or1 (pt_cmpR op_ne (pe_callB call_len_seq (by rfl) T.z_len (by decide +kernel) (pa_cons (pv 0) pa_nil)) (pv 1) (nomark _)))))
      (pss_one (ps_ret pe_bl))
      pss_nil)
      (pss_one (ps_ret (pe_cmpR (op_eqD hr.units) (pe_lc (own := [("_law_one", 2)]) rfl sc__law_paper.nd (pi_tup (pv 0)) (blkOk_by (N := ["_law_found", "_law_many", "_law_one"]) (sc := defScope (topS 92)) (by decide +kernel)) (fun _ _ _ _ _ => (pg_name (i := 2) sc__law_paper.nd rfl (by first | exact Or.inl rfl | exact Or.inr rfl))) (fun _ _ _ _ _ => (pts_one (pt_val (pe_callB (r := rIsi K) call_isi (by rfl) T.z_isinstance (by decide +kernel) (pa_cons (pv 2) (pa_cons (pe_bltn (v := .ty "bool") (by rfl) T.z_bool (by decide +kernel) rfl) pa_nil)))))) (fun _ _ _ _ _ => (pv 2))) (pe_lst pa_nil) (nomark _))))), ?_⟩
    refine ⟨_, rfl, ?_⟩
    refine isi (ty_tup ht) (b := true) (c := "tuple") (by decide +kernel) ?_
    refine ⟨true, rfl, ?_⟩
    refine ⟨_, rfl, t, _, rfl, .inr ht, _, rfl, rfl, false, by rw [hl, decide_eq_true rfl]; rfl, ?_⟩
    refine ⟨_, rfl, t, rfl, ⟨_, ht⟩, fun D nD => ?_⟩
    refine lc_st (walk_tup (K := K) (a := t) (xs := xs)) (fun i acc H' => Same H H' ∧ acc = nV []) ⟨same_new nD, rfl⟩ (fun i acc _ _ H' _ ⟨s, e⟩ => ⟨same_mut s nD, e⟩) (fun i acc H' _ ⟨s, e⟩ => same_t s ht) (fun i acc H' hi ⟨s, e⟩ => by rw [e]; exact szl (by decide)) (fun i xv acc H5 H6 hi eD ⟨s5, e⟩ ⟨eH, exv⟩ Qy Qn ky kn => ?_) (fun acc H5 eD ⟨s5, e⟩ => ?_)
    · subst eH
      have ty : ∃ tt, TyX K H6 xv (.type tt) ∧ kitB tt "bool" = some false := by
        rcases hx xv (List.mem_of_getElem? exv) with ⟨i, rfl⟩ | ⟨a, ys, rfl, h⟩
        · exact ⟨"int", .base (.int i), by decide +kernel⟩
        · exact ⟨"tuple", ty_tup (same_t s5 h), by decide +kernel⟩
      obtain ⟨tt, t1, t2⟩ := ty
      refine ⟨rfl, _, rfl, ?_⟩
      refine isi t1 t2 ?_
      exact ⟨false, rfl, kn _ eD ⟨s5, e⟩⟩
    · rw [e] at eD
      refine ⟨Nat.zero_le _, fun e0 ne0 => ?_⟩
      exact eq_nil (same_new ne0 _ _ eD) upd_same (q _ (s5.trans (same_new ne0)))
def sp_law_rounds (K : PySem.W.Frag) : Sp := fun vs H Q _ => ∃ (p s t tw tu : Addr) (o : Obj) (rs : List Row) (G : Nat → List Edge) (wt : Nat → Bool) (one other : Nat) (w u : List Nat), vs = [.ref p, .ref s, .int (one : Int), .int (other : Int), .ref t] ∧ LG H p s rs G wt ∧ SqT K H t [.str ("round" : Str), .ref tw, .ref tu] ∧ H tw = some (.frz o (.tup (nV w))) ∧ o.dict = none ∧ SqT K H tu (nV u) ∧ one ≠ other ∧ WayOk G wt rs.length one other w ∧ TurnOk G wt rs.length other w u ∧ ∀ H', Same H H' → Q (.bl true) H'
theorem sc__law_rounds : FnScope ["_law_program", "_law_steps_here", "_law_one", "_law_other", "_law_paper_here", "_law_text", "_law_way_here", "_law_turn", "_law_at", "_law_before", "_law_many", "_law_long_here", "_law_beats_here", "_law_row", "_law_following"] ["_law_program", "_law_steps_here", "_law_one", "_law_other", "_law_paper_here"] (defScope (topS 93)) := ⟨rfl, rfl, rfl, by decide +kernel, rfl, by decide +kernel, by decide +kernel⟩
theorem ok__law_rounds (T : Txt K mg) : Ok P w K mg base 2 "_law_rounds" ["_law_program", "_law_steps_here", "_law_one", "_law_other", "_law_paper_here"] (sp_law_rounds K) := by
  obtain ⟨fd, F⟩ := T.d__law_rounds
  obtain ⟨fd_lsum, G_lsum, kp_lsum, b_lsum⟩ := ok__law_sum (P := P) (w := w) (base := base) T
  refine ⟨fd, F.ok sc__law_rounds (fun vs H Q E h => ?_) (fun cdv A outer s H vs Q E hr h => ?_), F.kp, F.bindsN fun _ _ _ _ _ _ us hl => match us, hl with | [_, _, _, _, _], _ => rfl⟩
  · obtain ⟨p, s, t, tw, tu, o, rs, G, wt, one, other, w, u, rfl, _⟩ := h
    rfl
  · obtain ⟨p, s, t, tw, tu, o, rs, G, wt, one, other, w, u, rfl, hs, ht, htw, hod, htu, hne, hw, hT, q⟩ := h
    have hu := hu_of hr
    refine ⟨_, PSs.nox (pss_cons (ps_asg (pv 4) (pg_tup rfl (pgs_cons (pg_name (i := 5) sc__law_rounds.nd rfl (by first | exact Or.inl rfl | exact Or.inr rfl)) (pgs_cons (pg_name (i := 6) sc__law_rounds.nd rfl (by first | exact Or.inl rfl | exact Or.inr rfl)) (pgs_cons (pg_name (i := 7) sc__law_rounds.nd rfl (by first | exact Or.inl rfl | exact Or.inr rfl)) pgs_nil)))))
      (pss_cons (ps_set (i := 8) sc__law_rounds.nd rfl (by first | exact Or.inl rfl | exact Or.inr rfl) (R65.pe_tupIx (pv 6) (pa_cons (pe_ix ix_tup (pv 7) pe_int (fun _ _ => rfl)) pa_nil)))
      (pss_cons (ps_set (i := 9) sc__law_rounds.nd rfl (by first | exact Or.inl rfl | exact Or.inr rfl) pe_int)
      (pss_cons (ps_for PassesOwn.never rfl (pi_range1 (by rfl) T.z_range (pa_cons pe_int pa_nil)) (pg_name (i := 10) sc__law_rounds.nd rfl (by first | exact Or.inl rfl | exact Or.inr rfl))
      (pss_cons (ps_set (i := 11) sc__law_rounds.nd rfl (by first | exact Or.inl rfl | exact Or.inr rfl) (pe_op op_catA (pe_op op_catA (pe_slice sl_tupA (pv 6) po_none (po_some (pv 8))) (pe_op R65.op_repTA (pe_slice sl_tupA (pv 7) po_none (po_some (pe_un un_neg pe_int))) (pv 10))) (pe_slice sl_tupA (pv 6) (po_some (pv 8)) po_none)))
      (pss_cons (ps_set (i := 12) sc__law_rounds.nd rfl (by first | exact Or.inl rfl | exact Or.inr rfl) (pe_call G_lsum hr (by rfl) T.g__law_sum kp_lsum b_lsum .nil pass0 (pa_cons (pv 1) (pa_cons (pv 11) (pa_cons pe_int pa_nil)))))
      (pss_cons (ps_if (PW.pt (pw_or (pt_cmpR op_le (pv 12) (pv 9) (nomark _)) (pw_or (pt_cmpR op_ne (pe_ix ix_tup (pv 11) pe_int (fun _ _ => rfl)) (pv 2) (nomark _)) (pw_or1 (pt_cmpR op_ne (pe_ix ix_tup (pv 11) (pe_un un_neg pe_int) (fun _ _ => rfl)) (pv 3) (nomark _))))))
      (pss_one (ps_ret pe_bl))
      pss_nil)
      (pss_cons (ps_if (pt_cmpR (op_neD hr.units) (pe_lc (own := [("_law_row", 13)]) rfl sc__law_rounds.nd (pi_tup (pe_slice sl_tupA (pv 11) (po_some pe_int) (po_some (pe_un un_neg pe_int)))) (blkOk_by (N := ["_law_program", "_law_steps_here", "_law_one", "_law_other", "_law_paper_here", "_law_text", "_law_way_here", "_law_turn", "_law_at", "_law_before", "_law_many", "_law_long_here", "_law_beats_here", "_law_row", "_law_following"]) (sc := defScope (topS 93)) (by decide +kernel)) (fun _ _ _ _ _ => (pg_name (i := 13) sc__law_rounds.nd rfl (by first | exact Or.inl rfl | exact Or.inr rfl))) (fun _ _ _ _ _ => (pts_one (PW.pt (pw_or (pt_cmpR op_eq (pv 13) (pv 3) (nomark _)) (pw_or1 (pt_cmpR op_eq (pe_ix (r := rIxT K) ix_tup (pe_ix (r := rIxT K) ix_tup (pv 0) (pv 13) (fun _ _ => rfl)) pe_int (fun _ _ => rfl)) pe_str (nomark _))))))) (fun _ _ _ _ _ => (pv 13))) (pe_lst pa_nil) (nomark _))
      (pss_one (ps_ret pe_bl))
      pss_nil)
      (pss_cons (ps_if (pt_cmpR (op_neD hr.units) (pe_lc (own := [("_law_row", 13), ("_law_following", 14)]) rfl sc__law_rounds.nd (RZ.pi_zipA (by rfl) T.z_zip (pa_cons (pe_slice sl_tupA (pv 11) po_none (po_some (pe_un un_neg pe_int))) (pa_cons (pe_slice sl_tupA (pv 11) (po_some pe_int) po_none) pa_nil))) (blkOk_by (N := ["_law_program", "_law_steps_here", "_law_one", "_law_other", "_law_paper_here", "_law_text", "_law_way_here", "_law_turn", "_law_at", "_law_before", "_law_many", "_law_long_here", "_law_beats_here", "_law_row", "_law_following"]) (sc := defScope (topS 93)) (by decide +kernel)) (fun _ _ _ _ _ => (R65.pg_tupK (K := K) (n := 2) rfl rfl (pgs_cons (pg_name (i := 13) sc__law_rounds.nd rfl (by first | exact Or.inl rfl | exact Or.inr rfl)) (pgs_cons (pg_name (i := 14) sc__law_rounds.nd rfl (by first | exact Or.inl rfl | exact Or.inr rfl)) pgs_nil)))) (fun _ _ _ _ _ => (pts_one (pt_cmp (pc_dnotin hu (pv 14) (pe_ix (r := rIxL K) ix_list (pv 1) (pv 13) (fun _ _ => rfl)))))) (fun _ _ _ _ _ => (pv 13))) (pe_lst pa_nil) (nomark _))
      (pss_one (ps_ret pe_bl))
      pss_nil)
      (pss_one (ps_set (i := 9) sc__law_rounds.nd rfl (by first | exact Or.inl rfl | exact Or.inr rfl) (pv 12)))))))))
      (pss_one (ps_ret pe_bl)))))), ?_⟩
    obtain ⟨hp, a6, gr, hwt⟩ := id hs
    have n120 := gr.n120
    obtain ⟨x, x1, x2, x3⟩ := hT.ends
    have htw2 : SqT K H tw (nV w) := .inl (.inr ⟨o, htw⟩)
    have w200 := hw.most
    have u200 := hT.most
    refine ⟨_, rfl, t, _, rfl, ht, rfl, _, _, rfl, _, _, rfl, _, _, rfl, rfl, ?_⟩
    obtain ⟨at_, hat⟩ : ∃ at_ : Nat, at_ = (iN w).idxOf (x : Int) := ⟨_, rfl⟩
    have hxi : (x : Int) ∈ iN w := List.mem_map.mpr ⟨x, x3, rfl⟩
    have hatw : w[at_]? = some x := by
      have h1 : (iN w).idxOf (x : Int) < (iN w).length := List.idxOf_lt_length_iff.mpr hxi
      have h2 : (iN w)[(iN w).idxOf (x : Int)]? = some (x : Int) := by
        rw [List.getElem?_eq_getElem h1, List.getElem_idxOf h1]
      rw [← hat] at h2
      unfold iN at h2
      rw [List.getElem?_map] at h2
      cases z : w[at_]? with
      | none => rw [z] at h2; cases h2
      | some y =>
        rw [z] at h2
        have : (y : Int) = (x : Int) := Option.some.inj h2
        rw [show y = x by omega]
    have hal := (List.getElem?_eq_some_iff.mp hatw).1
    obtain ⟨m1, m2, m3, m4⟩ := rnd_ok gr hne hw hT x1 hatw
    refine ⟨_, rfl, ⟨tw, o, iN w, rfl, by rw [← nV_iN]; exact htw, hod⟩, _, rfl, tu, _, _, _, rfl, rfl, htu, atI_nat (j := 0) (nV_at x1), tw, o, iN w, _, rfl, rfl, by rw [← nV_iN]; exact htw, hod, hxi, ?_⟩
    rw [← hat]
    refine ⟨_, rfl, by decide, by decide, for_it walk_rng (fun i σ H' => ∃ (bf : Int) (x10 x11 x12 : Option V), σ = [some (.ref p), some (.ref s), some (.int (one : Int)), some (.int (other : Int)), some (.ref t), some (.str ("round" : Str)), some (.ref tw), some (.ref tu), some (.int (at_ : Int)), some (.int bf), x10, x11, x12, none, none] ∧ Same H H' ∧ bf < wsum G 0 (w.take at_ ++ rnd w u at_ i)) ⟨0, none, none, none, rfl, Same.refl _, m4⟩ (fun _ _ _ _ _ => trivial) ?_ ?_⟩
    · rintro i xv σ H9 H1 hi ⟨bf, x10, x11, x12, rfl, s1, hbf⟩ ⟨rfl, rfl⟩
      have hi4 : i < 4 := hi
      have hR0 := m1 i
      have rk9 := m2 i
      have lW : (w.take at_ ++ rnd w u at_ i).length ≤ 1200 := by
        unfold rnd
        have l1 : (List.replicate i (u.take (u.length - 1))).flatten.length = i * (u.take (u.length - 1)).length := by
          rw [List.length_flatten, List.map_replicate, List.sum_replicate_nat]
        rw [List.length_append, List.length_append, l1, List.length_take, List.length_take, List.length_drop]
        have : i * min (u.length - 1) u.length ≤ 3 * 200 := Nat.mul_le_mul (by omega) (by omega)
        omega
      refine ⟨_, rfl, _, rfl, _, rfl, slA (same_t s1 htw2) fun ta H2 s2 hta => ?_⟩
      rw [cut_to, nV_take] at hta
      refine ⟨_, rfl, 1, rfl, _, rfl, slA (same_t (s1.trans s2) htu) fun tb H3 s3 htb => ?_⟩
      rw [show cutV (nV u) none (some (-1)) = nV (u.take (u.length - 1)) by rw [cut_init, nV_len, nV_take]] at htb
      have u2 := hT.two
      have lu : (u.take (u.length - 1)).length = u.length - 1 := by rw [List.length_take]; omega
      refine ⟨_, rfl, repA htb (fun z => ?_) (show i ≤ 1000 by omega) (by rw [nV_len, lu]; omega) fun tc H4 s4 htc => ?_⟩
      · have := congrArg List.length z
        rw [nV_len, lu] at this
        simp at this
        omega
      rw [nV_rep] at htc
      have lrep : (List.replicate i (u.take (u.length - 1))).flatten.length ≤ 600 := by
        have l1 : (List.replicate i (u.take (u.length - 1))).flatten.length = i * (u.take (u.length - 1)).length := by
          rw [List.length_flatten, List.map_replicate, List.sum_replicate_nat]
        rw [l1, lu]
        exact Nat.mul_le_mul (show i ≤ 3 by omega) (show u.length - 1 ≤ 200 by omega)
      have hta4 := same_t (s3.trans s4) hta
      have s14 := s1.trans ((s2.trans s3).trans s4)
      refine catA hta4 htc (sz (by rw [nV_len, nV_len, List.length_take]; omega)) fun td H5 s5 htd => ?_
      rw [← nV_app] at htd
      refine ⟨_, rfl, _, rfl, _, rfl, ?_⟩
      refine slB (same_t (s14.trans s5) htw2) fun te H6 s6 hte => ?_
      rw [cut_from, nV_drop] at hte
      refine catA (same_t s6 htd) hte (sz (by rw [nV_len, nV_len, List.length_append, List.length_take, List.length_drop]; omega)) fun tl H7 s7 htl => ?_
      rw [← nV_app, List.append_assoc] at htl
      have s17 := s14.trans ((s5.trans s6).trans s7)
      obtain ⟨WW, hWW⟩ : ∃ WW, WW = w.take at_ ++ rnd w u at_ i := ⟨_, rfl⟩
      have htl2 : SqT K H7 tl (nV WW) := by rw [hWW]; exact htl
      rw [← hWW] at rk9 lW hbf
      refine ⟨_, rfl, _, rfl, s, tl, rs.length, 0, G, WW, rfl, a6.same s17, gr.toGrOk, .inr htl2, by omega, rk9.lt, rk9.ch, .inl rfl, fun H8 s8 => ?_⟩
      have s18 := s17.trans s8
      have htl8 := same_t s8 htl2
      refine ⟨_, rfl, _, rfl, _, _, rfl, rfl, false, congrArg V.bl (decide_eq_false (by omega)), ?_⟩
      refine ⟨_, rfl, tl, _, _, _, rfl, rfl, htl8, atI_nat (j := 0) (nV_at rk9.first), _, rfl, rfl, false, by rw [decide_eq_true rfl]; rfl, ?_⟩
      refine ⟨_, rfl, 1, rfl, tl, _, _, _, rfl, rfl, htl8, at_last rk9.last, _, rfl, rfl, false, by rw [decide_eq_true rfl]; rfl, ?_⟩
      refine ⟨_, rfl, _, rfl, 1, rfl, _, rfl, slA htl8 fun tm H9' s9 htm => ?_⟩
      rw [cut_mid_nV] at htm
      have s19 := s18.trans s9
      refine ⟨tm, rfl, ⟨_, htm⟩, fun D nD => ?_⟩
      refine lc_st (walk_tup (K := K) (a := tm) (xs := nV ((WW.drop 1).take (WW.length - 2)))) (fun i acc H' => Same H9' H' ∧ acc = nV []) ⟨same_new nD, rfl⟩ (fun i acc _ _ H' _ ⟨s, e⟩ => ⟨same_mut s nD, e⟩) (fun i acc H' _ ⟨s, e⟩ => same_t s htm) (fun i acc H' hi ⟨s, e⟩ => by rw [e]; exact szl (by decide)) (fun i xv acc H10 H11 hi eD ⟨s10, e⟩ ⟨eH, exv⟩ Qy Qn ky kn => ?_) (fun acc H10 eD ⟨s10, e⟩ => ?_)
      · subst eH
        obtain ⟨n, en, rfl⟩ := nV_get exv
        have hm := List.mem_of_getElem? en
        obtain ⟨q1, q2⟩ := rk9.mid n hm
        have hn := rk9.lt n (List.mem_of_mem_drop (List.mem_of_mem_take hm))
        obtain ⟨r, er⟩ := row_at hn
        obtain ⟨ys, a, g1, g2, g3⟩ := (hp.same (s19.trans s10)).row er
        refine ⟨rfl, _, rfl, _, rfl, rfl, false, congrArg V.bl (decide_eq_false (fun z => q2 (by have := V.int.inj z; omega))), ?_⟩
        refine ⟨_, rfl, _, rfl, p, _, _, _, rfl, rfl, sqT g1, g2, a, _, _, _, rfl, rfl, sqT g3, at1, rfl, false, ?_, kn _ eD ⟨s10, e⟩⟩
        rw [bl_str, ← hwt n r er, q1]
      rw [e] at eD
      refine ⟨Nat.zero_le _, fun e0 ne0 => ?_⟩
      have t11 := same_new (o := .lst []) ne0
      have e011 : upd H10 e0 (.lst []) e0 = some (.lst []) := upd_same
      have eD11 := t11 _ _ eD
      have s111 := (s19.trans s10).trans t11
      have htl11 := same_t ((s9.trans s10).trans t11) htl8
      generalize upd H10 e0 (.lst []) = H11 at *
      refine ne_nil eD11 e011 ⟨false, rfl, ?_⟩
      refine ⟨_, rfl, 1, rfl, _, rfl, slA htl11 fun t1 H12 s12 ht1 => ?_⟩
      refine ⟨_, rfl, _, rfl, ?_⟩
      refine slB (same_t s12 htl11) fun t2 H13 s13 ht2 => ?_
      rw [show cutV (nV WW) none (some (-1)) = nV (WW.take (WW.length - 1)) by rw [cut_init, nV_len, nV_take]] at ht1
      rw [show cutV (nV WW) (some 1) none = nV (WW.drop 1) by rw [cut_tail, nV_drop]] at ht2
      have s113 := s111.trans (s12.trans s13)
      have hs13 := a6.same s113
      have ht1' := same_t s13 ht1
      refine ⟨t1, t2, _, _, rfl, .inr ⟨ht1', ht2, fun D2 nD2 => ?_⟩⟩
      refine lc_st (walk_zipT (pairs_len WW)) (fun i acc H' => Same H13 H' ∧ acc = nV []) ⟨same_new nD2, rfl⟩ (fun i acc _ _ H' _ ⟨s, e⟩ => ⟨same_mut s nD2, e⟩) (fun i acc H' _ ⟨s, e⟩ => ⟨same_t s ht1', same_t s ht2⟩) (fun i acc H' hi ⟨s, e⟩ => by rw [e]; exact szl (by decide)) (fun i xv acc H14 H15 hi eD ⟨s14', e⟩ ⟨T9, y1, y2, ex, nT, eH, e1, e2⟩ Qy Qn ky kn => ?_) (fun acc H14 eD2 ⟨s14', e⟩ => ?_)
      · subst eH
        obtain ⟨a, b, ea, eb, rfl, rfl⟩ := pairs_get e1 e2
        have t4 := same_new (o := .tup [.int (a : Int), .int (b : Int)]) nT
        have eT : upd H14 T9 (.tup [.int (a : Int), .int (b : Int)]) T9 = some (.tup [.int (a : Int), .int (b : Int)]) := upd_same
        have eD4 := t4 _ _ eD
        generalize upd H14 T9 (.tup [.int (a : Int), .int (b : Int)]) = H16 at *
        obtain ⟨ys, d, t9, g1, g2, g3, g4⟩ := (hs13.same (s14'.trans t4)).edge gr.toGrOk (rk9.lt a (List.mem_of_getElem? ea)) (rk9.ch i a b ea eb)
        refine ⟨T9, _, ex, sqT eT, rfl, _, _, rfl, _, _, rfl, rfl, rfl, ?_⟩
        exact ⟨_, rfl, _, rfl, _, rfl, s, _, _, _, rfl, rfl, sqL g1, g2, d, _, rfl, g3, false, rfl, kn _ eD4 ⟨s14'.trans t4, e⟩⟩
      rw [e] at eD2
      refine ⟨Nat.zero_le _, fun e1 ne1 => ?_⟩
      have t17 := same_new (o := .lst []) ne1
      have e117 : upd H14 e1 (.lst []) e1 = some (.lst []) := upd_same
      have eD17 := t17 _ _ eD2
      refine ne_nil eD17 e117 ⟨false, rfl, ?_⟩
      refine ⟨_, rfl, wsum G 0 WW, _, _, _, rfl, (s113.trans s14').trans t17, ?_⟩
      rw [hWW]
      exact m3 i
    · rintro σ H' ⟨bf, x10, x11, x12, rfl, s1, hbf⟩
      exact q _ s1
end
end B65

end

section
set_option Elab.async false
set_option linter.all false
set_option maxRecDepth 100000
set_option maxHeartbeats 8000000
namespace B65
open PySem PySem.Spec PyProof.Rows L2
section
variable {P : Program} {w : World} {K : PySem.W.Frag} {mg : Str → Option Value} {base : Heap}
def sp_law_high (K : PySem.W.Frag) : Sp := fun vs H Q _ => ∃ (p s t : Addr) (rs : List Row) (G : Nat → List Edge) (wt : Nat → Bool) (one other : Nat) (x : High) (mh : Int), vs = [.ref p, .ref s, .int (one : Int), .int (other : Int), .ref t, .int mh] ∧ LG H p s rs G wt ∧ one ≠ other ∧ HighAt K H t x ∧ HighOk G wt rs.length one other x ∧ (∀ B w ps, x = .most B w ps → mh ≤ B) ∧ ∀ H', Same H H' → Q (.bl true) H'
theorem sc__law_high : FnScope ["_law_program", "_law_steps_here", "_law_one", "_law_other", "_law_paper_here", "_law_most_here"] ["_law_program", "_law_steps_here", "_law_one", "_law_other", "_law_paper_here", "_law_most_here"] (defScope (topS 94)) := ⟨rfl, rfl, rfl, by decide +kernel, rfl, by decide +kernel, by decide +kernel⟩
theorem ok__law_high (T : Txt K mg) : Ok P w K mg base 3 "_law_high" ["_law_program", "_law_steps_here", "_law_one", "_law_other", "_law_paper_here", "_law_most_here"] (sp_law_high K) := by
  obtain ⟨fd, F⟩ := T.d__law_high
  obtain ⟨fd_lpriced, G_lpriced, kp_lpriced, b_lpriced⟩ := ok__law_priced (P := P) (w := w) (base := base) T
  obtain ⟨fd_lrounds, G_lrounds, kp_lrounds, b_lrounds⟩ := ok__law_rounds (P := P) (w := w) (base := base) T
  refine ⟨fd, F.ok sc__law_high (fun vs H Q E h => ?_) (fun cdv A outer s H vs Q E hr h => ?_), F.kp, F.bindsN fun _ _ _ _ _ _ us hl => match us, hl with | [_, _, _, _, _, _], _ => rfl⟩
  · obtain ⟨p, s, t, rs, G, wt, one, other, x, mh, rfl, _⟩ := h
    rfl
  · obtain ⟨p, s, t, rs, G, wt, one, other, x, mh, rfl, hs, hne, ht, ok, hmh, q⟩ := h
    have hu := hu_of hr
    refine ⟨_, PSs.nox (pss_cons (ps_if (PW.pt (pw_and (pt_cmpR op_eq (pe_ix ix_tup (pv 4) pe_int (fun _ _ => rfl)) pe_str (nomark _)) (pw_and1 (pt_cmpR op_eq (pe_callB call_len_seq (by rfl) T.z_len (by decide +kernel) (pa_cons (pv 4) pa_nil)) pe_int (nomark _)))))
      (pss_one (ps_ret (pe_and (pe_call G_lpriced hr (by rfl) T.g__law_priced kp_lpriced b_lpriced .nil pass0 (pa_cons (pv 0) (pa_cons (pv 1) (pa_cons (pv 2) (pa_cons (pv 3) (pa_cons (pe_slice sl_tupA (pv 4) (po_some pe_int) po_none) (pa_cons pe_int pa_nil))))))) (pe_one (pe_cmpR op_le (pv 5) (pe_ix ix_tup (pv 4) pe_int (fun _ _ => rfl)) (nomark _))))))
      pss_nil)
      (pss_one (ps_ret (pe_and (pe_cmpR op_eq (pe_ix ix_tup (pv 4) pe_int (fun _ _ => rfl)) pe_str (nomark _)) (pe_and (pe_cmpR op_eq (pe_callB call_len_seq (by rfl) T.z_len (by decide +kernel) (pa_cons (pv 4) pa_nil)) pe_int (nomark _)) (pe_one (pe_call G_lrounds hr (by rfl) T.g__law_rounds kp_lrounds b_lrounds .nil pass0 (pa_cons (pv 0) (pa_cons (pv 1) (pa_cons (pv 2) (pa_cons (pv 3) (pa_cons (pv 4) pa_nil)))))))))))), ?_⟩
    cases x with
    | most B w ps =>
      obtain ⟨tw, tp, t1, t2, t3⟩ := ht
      have hB := hmh B w ps rfl
      refine ⟨_, rfl, t, _, _, _, rfl, rfl, t1, atI_nat (j := 0) rfl, rfl, true, by decide +kernel, ?_⟩
      refine ⟨_, rfl, t, _, rfl, .inr t1, rfl, true, congrArg V.bl (decide_eq_true rfl), ?_⟩
      refine ⟨_, rfl, _, rfl, _, rfl, _, rfl, _, rfl, _, rfl, ?_⟩
      refine slB t1 fun t9 H3 s3 ht9 => ?_
      refine ⟨p, s, t9, tw, tp, rs, G, wt, ps, w, one, other, 1, B, rfl, hs.same s3, ht9, same_t s3 t2, t3.same s3, ok, .inr rfl, fun H4 s4 => ⟨true, rfl, ?_⟩⟩
      refine ⟨_, rfl, _, rfl, t, _, _, _, rfl, rfl, same_t (s3.trans s4) t1, atI_nat (j := 1) rfl, _, _, rfl, rfl, ?_⟩
      show Q (.bl (decide (mh ≤ B))) H4
      rw [decide_eq_true hB]
      exact q _ (s3.trans s4)
    | round w u =>
      obtain ⟨tw, tu, t1, ⟨o, t2, t2'⟩, t3⟩ := ht
      refine ⟨_, rfl, t, _, _, _, rfl, rfl, t1, atI_nat (j := 0) rfl, rfl, false, by decide +kernel, ?_⟩
      refine ⟨_, rfl, t, _, _, _, rfl, rfl, t1, atI_nat (j := 0) rfl, rfl, true, by decide +kernel, ?_⟩
      refine ⟨_, rfl, t, _, rfl, .inr t1, rfl, true, congrArg V.bl (decide_eq_true rfl), ?_⟩
      exact ⟨_, rfl, _, rfl, _, rfl, _, rfl, _, rfl, p, s, t, tw, tu, o, rs, G, wt, one, other, w, u, rfl, hs, t1, t2, t2', t3, hne, ok.1, ok.2, fun H4 s4 => q _ s4⟩
theorem PricesAt.ref {H : Hp} {t : Addr} {ps : List Price} (h : PricesAt K H t ps) : ∃ ys, SqT K H t ys := let ⟨vs, a, _⟩ := h; ⟨vs, a⟩
def sp_law_right (K : PySem.W.Frag) : Sp := fun vs H Q _ => ∃ (d p s tp : Addr) (rs : List Row) (b : Int) (wt : Nat → Bool) (one other : Nat), vs = [.ref d, .ref p, .int b, .ref s, .ref tp] ∧ DeckAt H d ∧ LG H p s rs (nxOf b rs) wt ∧ PO rs b ∧ H tp = some (.tup [.int (one : Int), .int (other : Int)]) ∧ PairOk rs (nxOf b rs) wt one other ∧ ∀ H', SB d H H' → DeckAt H' d → Q (.bl true) H'
theorem sc__law_right : FnScope ["_law_deck_here", "_law_program", "_law_base_here", "_law_steps_here", "_law_pair_here", "_law_one", "_law_other", "_law_found", "_law_low", "_law_high_here", "_law_kept_here", "_law_ways", "_law_most_here", "_law_k", "_law_way_here"] ["_law_deck_here", "_law_program", "_law_base_here", "_law_steps_here", "_law_pair_here"] (defScope (topS 95)) := ⟨rfl, rfl, rfl, by decide +kernel, rfl, by decide +kernel, by decide +kernel⟩
theorem ok__law_right (T : Txt K mg) : Ok P w K mg base 10 "_law_right" ["_law_deck_here", "_law_program", "_law_base_here", "_law_steps_here", "_law_pair_here"] (sp_law_right K) := by
  obtain ⟨fd, F⟩ := T.d__law_right
  obtain ⟨fd_span, G_span, kp_span, b_span⟩ := ok_span (P := P) (w := w) (base := base) T
  obtain ⟨fd_lpaper, G_lpaper, kp_lpaper, b_lpaper⟩ := ok__law_paper (P := P) (w := w) (base := base) T
  obtain ⟨fd_right_low, G_right_low, kp_right_low, b_right_low⟩ := ok_right_low (P := P) (w := w) (base := base) T
  obtain ⟨fd_right_high, G_right_high, kp_right_high, b_right_high⟩ := ok_right_high (P := P) (w := w) (base := base) T
  obtain ⟨fd_lkept, G_lkept, kp_lkept, b_lkept⟩ := ok__law_kept (P := P) (w := w) (base := base) T
  obtain ⟨fd_ldrawn_way, G_ldrawn_way, kp_ldrawn_way, b_ldrawn_way⟩ := ok__law_drawn_way (P := P) (w := w) (base := base) T
  obtain ⟨fd_lsum, G_lsum, kp_lsum, b_lsum⟩ := ok__law_sum (P := P) (w := w) (base := base) T
  obtain ⟨fd_lpriced, G_lpriced, kp_lpriced, b_lpriced⟩ := ok__law_priced (P := P) (w := w) (base := base) T
  obtain ⟨fd_lhigh, G_lhigh, kp_lhigh, b_lhigh⟩ := ok__law_high (P := P) (w := w) (base := base) T
  refine ⟨fd, F.ok sc__law_right (fun vs H Q E h => ?_) (fun cdv A outer s H vs Q E hr h => ?_), F.kp, F.bindsN fun _ _ _ _ _ _ us hl => match us, hl with | [_, _, _, _, _], _ => rfl⟩
  · obtain ⟨d, p, s, tp, rs, b, wt, one, other, rfl, _⟩ := h
    rfl
  · obtain ⟨d, p, s, tp, rs, b, wt, one, other, rfl, hd, hs, po, htp, pok, q⟩ := h
    have hu := hu_of hr
    refine ⟨_, PSs.nox (pss_cons (ps_asg (pv 4) (pg_tup rfl (pgs_cons (pg_name (i := 5) sc__law_right.nd rfl (by first | exact Or.inl rfl | exact Or.inr rfl)) (pgs_cons (pg_name (i := 6) sc__law_right.nd rfl (by first | exact Or.inl rfl | exact Or.inr rfl)) pgs_nil))))
      (pss_cons (ps_set (i := 7) sc__law_right.nd rfl (by first | exact Or.inl rfl | exact Or.inr rfl) (pe_call G_span hr (by rfl) T.g_span kp_span b_span .nil pass0 (pa_cons (pv 1) (pa_cons (pv 2) (pa_cons (pv 5) (pa_cons (pv 6) pa_nil))))))
      (pss_cons (ps_if (PW.pt (pw_or (pt_not (pt_val (pe_call G_lpaper (hr.mono (by decide)) (by rfl) T.g__law_paper kp_lpaper b_lpaper .nil pass0 (pa_cons (pv 7) (pa_cons pe_int pa_nil))))) (pw_or (pt_not (pt_val (pe_call G_lpaper (hr.mono (by decide)) (by rfl) T.g__law_paper kp_lpaper b_lpaper .nil pass0 (pa_cons (pe_ix ix_tup (pv 7) pe_int (fun _ _ => rfl)) (pa_cons pe_int pa_nil))))) (pw_or1 (pt_not (pt_val (pe_callB call_isi (by rfl) T.z_isinstance (by decide +kernel) (pa_cons (pe_ix ix_tup (pv 7) pe_int (fun _ _ => rfl)) (pa_cons (pe_bltn (v := .ty "tuple") (by rfl) T.z_tuple (by decide +kernel) rfl) pa_nil)))))))))
      (pss_one (ps_ret pe_bl))
      pss_nil)
      (pss_cons (ps_asg (pv 7) (pg_tup rfl (pgs_cons (pg_name (i := 8) sc__law_right.nd rfl (by first | exact Or.inl rfl | exact Or.inr rfl)) (pgs_cons (pg_name (i := 9) sc__law_right.nd rfl (by first | exact Or.inl rfl | exact Or.inr rfl)) pgs_nil))))
      (pss_cons (ps_if (PW.pt (pw_or (pt_cmpR op_isnot_bl (pe_call G_right_low (hr.mono (by decide)) (by rfl) T.g_right_low kp_right_low b_right_low .nil pass0 (pa_cons (pv 1) (pa_cons (pv 2) (pa_cons (pv 5) (pa_cons (pv 6) (pa_cons (pv 8) pa_nil)))))) pe_bl (nomark _)) (pw_or1 (pt_cmpR op_isnot_bl (pe_call G_right_high (hr.mono (by decide)) (by rfl) T.g_right_high kp_right_high b_right_high .nil pass0 (pa_cons (pv 1) (pa_cons (pv 2) (pa_cons (pv 5) (pa_cons (pv 6) (pa_cons (pv 9) pa_nil)))))) pe_bl (nomark _)))))
      (pss_one (ps_ret pe_bl))
      pss_nil)
      (pss_cons (ps_set (i := 10) sc__law_right.nd rfl (by first | exact Or.inl rfl | exact Or.inr rfl) (pe_call G_lkept (hr.mono (by decide)) (by rfl) T.g__law_kept kp_lkept b_lkept .nil pass0 (pa_cons (pv 1) (pa_cons (pv 3) (pa_cons (pv 5) (pa_cons (pv 6) pa_nil))))))
      (pss_cons (ps_setLc (i := 11) (own := [("_law_k", 13)]) rfl sc__law_right.nd rfl rfl (sw_true rfl rfl rfl (by decide +kernel)) (pi_range1 (by rfl) T.z_range (pa_cons pe_int pa_nil)) (blkOk_by (N := ["_law_deck_here", "_law_program", "_law_base_here", "_law_steps_here", "_law_pair_here", "_law_one", "_law_other", "_law_found", "_law_low", "_law_high_here", "_law_kept_here", "_law_ways", "_law_most_here", "_law_k", "_law_way_here"]) (sc := defScope (topS 95)) (by decide +kernel)) (fun _ _ _ _ _ => (pg_name (i := 13) sc__law_right.nd rfl (by first | exact Or.inl rfl | exact Or.inr rfl))) (fun _ _ _ _ _ => pts_nil) (fun _ _ _ _ _ => (pe_call G_ldrawn_way (hr.mono (by decide)) (by rfl) T.g__law_drawn_way kp_ldrawn_way b_ldrawn_way .nil pass0 (pa_cons (pv 0) (pa_cons (pv 1) (pa_cons (pv 3) (pa_cons (pv 10) (pa_cons (pv 5) (pa_cons (pv 6) pa_nil)))))))))
      (pss_cons (ps_set (i := 12) sc__law_right.nd rfl (by first | exact Or.inl rfl | exact Or.inr rfl) (pe_callB (cr_max rfl) (by rfl) T.z_max (by decide +kernel) (pa_cons (pe_lc (own := [("_law_way_here", 14)]) rfl sc__law_right.nd (pi_list (pv 11)) (blkOk_by (N := ["_law_deck_here", "_law_program", "_law_base_here", "_law_steps_here", "_law_pair_here", "_law_one", "_law_other", "_law_found", "_law_low", "_law_high_here", "_law_kept_here", "_law_ways", "_law_most_here", "_law_k", "_law_way_here"]) (sc := defScope (topS 95)) (by decide +kernel)) (fun _ _ _ _ _ => (pg_name (i := 14) sc__law_right.nd rfl (by first | exact Or.inl rfl | exact Or.inr rfl))) (fun _ _ _ _ _ => pts_nil) (fun _ _ _ _ _ => (pe_call G_lsum (hr.mono (by decide)) (by rfl) T.g__law_sum kp_lsum b_lsum .nil pass0 (pa_cons (pv 3) (pa_cons (pv 14) (pa_cons pe_int pa_nil)))))) pa_nil)))
      (pss_cons (ps_if (pt_cmpR op_lt (pe_callB (cr_min rfl) (by rfl) T.z_min (by decide +kernel) (pa_cons (pe_lc (own := [("_law_way_here", 14)]) rfl sc__law_right.nd (pi_list (pv 11)) (blkOk_by (N := ["_law_deck_here", "_law_program", "_law_base_here", "_law_steps_here", "_law_pair_here", "_law_one", "_law_other", "_law_found", "_law_low", "_law_high_here", "_law_kept_here", "_law_ways", "_law_most_here", "_law_k", "_law_way_here"]) (sc := defScope (topS 95)) (by decide +kernel)) (fun _ _ _ _ _ => (pg_name (i := 14) sc__law_right.nd rfl (by first | exact Or.inl rfl | exact Or.inr rfl))) (fun _ _ _ _ _ => pts_nil) (fun _ _ _ _ _ => (pe_call G_lsum (hr.mono (by decide)) (by rfl) T.g__law_sum kp_lsum b_lsum .nil pass0 (pa_cons (pv 3) (pa_cons (pv 14) (pa_cons pe_int pa_nil)))))) pa_nil)) (pe_ix ix_tup (pv 8) pe_int (fun _ _ => rfl)) (nomark _))
      (pss_one (ps_ret pe_bl))
      pss_nil)
      (pss_one (ps_ret (pe_and (pe_call G_lpriced (hr.mono (by decide)) (by rfl) T.g__law_priced kp_lpriced b_lpriced .nil pass0 (pa_cons (pv 1) (pa_cons (pv 3) (pa_cons (pv 5) (pa_cons (pv 6) (pa_cons (pv 8) (pa_cons pe_int pa_nil))))))) (pe_one (pe_call G_lhigh (hr.mono (by decide)) (by rfl) T.g__law_high kp_lhigh b_lhigh .nil pass0 (pa_cons (pv 1) (pa_cons (pv 3) (pa_cons (pv 5) (pa_cons (pv 6) (pa_cons (pv 9) (pa_cons (pv 12) pa_nil)))))))))))))))))))), ?_⟩
    obtain ⟨hp, a6, gr, hw⟩ := id hs
    obtain ⟨hends, hrc⟩ := pok
    have n120 := gr.n120
    have h1 : one < rs.length := by
      obtain ⟨r, er, _⟩ := hends.2 one (.inl rfl)
      exact (List.getElem?_eq_some_iff.mp er).1
    have h0 : 0 < rs.length := by omega
    have ho := Rc.lt gr h1 hrc
    refine ⟨_, rfl, tp, _, rfl, sqT htp, rfl, _, _, rfl, _, _, rfl, rfl, ?_⟩
    refine ⟨_, rfl, _, rfl, _, rfl, _, rfl, p, rs, b, wt, one, other, rfl, hp, po, hw, gr, hends, hrc, fun H1 t tl th B w ps x s1 et pa plok ha hok => ?_⟩
    have tth : ∃ ys, SqT K H1 th ys := by
      cases x with
      | most B w ps => obtain ⟨_, _, z, _⟩ := ha; exact ⟨_, z⟩
      | round w u => obtain ⟨_, _, z, _⟩ := ha; exact ⟨_, z⟩
    obtain ⟨yh, tth⟩ := tth
    obtain ⟨tw, tq, pa1, pa2, pa3⟩ := id pa
    obtain ⟨yq, tq1⟩ := pa3.ref
    refine ⟨_, rfl, t, _, 2, rfl, sqT et, rfl, by decide, fun v hv => ?_, fun H2 s2 => ⟨true, rfl, ?_⟩⟩
    · rcases List.mem_cons.mp hv with z | z
      · exact .inr ⟨tl, _, z, pa1⟩
      · exact .inr ⟨th, _, List.mem_singleton.mp z, tth⟩
    refine ⟨_, rfl, t, _, _, _, rfl, rfl, sqT (s2 _ _ et), atI_nat (j := 0) rfl, tl, _, 3, rfl, same_t s2 pa1, rfl, by decide, fun v hv => ?_, fun H3 s3 => ⟨true, rfl, ?_⟩⟩
    · rcases List.mem_cons.mp hv with z | z
      · exact .inl ⟨B, z⟩
      · rcases List.mem_cons.mp z with z | z
        · exact .inr ⟨tw, _, z, same_t s2 pa2⟩
        · exact .inr ⟨tq, _, List.mem_singleton.mp z, same_t s2 tq1⟩
    have s23 := s2.trans s3
    refine ⟨_, rfl, t, _, _, _, rfl, rfl, sqT (s23 _ _ et), atI_nat (j := 1) rfl, ?_⟩
    refine isi (ty_tup (same_t s23 tth)) (b := true) (c := "tuple") (by decide +kernel) ?_
    refine ⟨true, rfl, ?_⟩
    refine ⟨_, rfl, t, _, rfl, sqT (s23 _ _ et), rfl, _, _, rfl, _, _, rfl, rfl, ?_⟩
    have s13 := s1.trans s23
    refine ⟨_, rfl, _, rfl, _, rfl, _, rfl, _, rfl, p, tl, rs, b, wt, one, other, B, w, ps, rfl, hp.same s13, po, gr.toGrOk, hw, hends, pa.same s23, plok, fun H4 s4 => ⟨_, _, rfl, rfl, false, rfl, ?_⟩⟩
    have s14 := s13.trans s4
    have s24 := s23.trans s4
    refine ⟨_, rfl, _, rfl, _, rfl, _, rfl, _, rfl, p, th, rs, b, wt, one, other, x, rfl, hp.same s14, po, gr.toGrOk, hw, hends, ha.same s24, hok, fun H5 s5 => ⟨_, _, rfl, rfl, false, rfl, ?_⟩⟩
    have s15 := s14.trans s5
    have s25 := s24.trans s5
    refine ⟨_, rfl, _, rfl, _, rfl, _, rfl, p, s, rs, nxOf b rs, wt, one, other, rfl, hs.same s15, h1, ho, fun H6 kl kp s6 nkl ekl kpl km => ?_⟩
    have s16 := s15.trans s6
    have s26 := s25.trans s6
    have b6 := SB.of (d := d) s16
    have hd6 := hd.same s16
    have nekl := (hd.same s15).ne nkl
    have hs6 := hs.same s16
    have pa6 := pa.same s26
    have ha6 := ha.same s26
    refine ⟨_, rfl, by decide, by decide, fun D nD => ?_⟩
    have neD := hd6.ne nD
    refine lc_st walk_rng (fun i acc H' => SB d H6 H' ∧ DeckAt H' d ∧ ∃ ls : List Addr, acc = ls.map V.ref ∧ ls.length = i ∧ ∀ l ∈ ls, l ≠ d ∧ l ≠ D ∧ ∃ w, H' l = some (.lst (nV w)) ∧ WayD (nxOf b rs) wt rs.length one other w) ⟨SB.of (same_new nD), hd6.same (same_new nD), [], rfl, rfl, fun l hl => by cases hl⟩
      (fun i acc _ _ H' _ ⟨s, e, ls, f1, f2, f3⟩ => ⟨sb_mut s nD, e.up2 neD, ls, f1, f2, fun l hl => let ⟨g1, g2, w, g3, g4⟩ := f3 l hl; ⟨g1, g2, w, upd_at g3 g2, g4⟩⟩) (fun _ _ _ _ _ => trivial) (fun i acc H' hi ⟨_, _, ls, e, l, _⟩ => by rw [e, List.length_map, l]; exact szl (Nat.lt_trans hi (by decide))) (fun i xv acc H8 H9 hi eD ⟨b8, hd8, ls, e, l, f⟩ ⟨eH, ex⟩ Qy Qn ky kn => ?_) (fun acc H7 eD ⟨b7, hd7, ls, e, lslen, lsf⟩ => ?_)
    · subst eH ex
      have b68 := b6.trans b8
      refine ⟨rfl, _, rfl, _, rfl, _, rfl, _, rfl, _, rfl, _, rfl, d, p, s, kl, rs, nxOf b rs, wt, one, other, kp, rfl, hd8, hs6.sb b8 hd6 h0, b8.lst nekl ekl, nekl, h1, km, hrc, fun H10 lw w sb10 hd10 nlw elw wd => ?_⟩
      have nelw := hd8.ne nlw
      have nelD : lw ≠ D := fun z => by rw [z, eD] at nlw; cases nlw
      refine ky _ _ (sb10.lst neD eD) ⟨b8.trans sb10, hd10, ls ++ [lw], by rw [e, List.map_append]; rfl, by rw [List.length_append, l]; rfl, fun l9 hl9 => ?_⟩
      rcases List.mem_append.mp hl9 with z | z
      · obtain ⟨g1, g2, w9, g3, g4⟩ := f l9 z
        exact ⟨g1, g2, w9, sb10.lst g1 g3, g4⟩
      · rw [List.mem_singleton.mp z]
        exact ⟨nelw, nelD, w, elw, wd⟩
    subst e
    have lslen : ls.length = 6 := lslen
    have b17 := b6.trans b7
    have hs7 := hs6.sb b7 hd6 h0
    refine ⟨_, rfl, D, rfl, ⟨_, sqL eD⟩, fun E nE => ?_⟩
    refine lc_st (walk_list (K := K) (a := D) (xs := ls.map V.ref)) (fun i acc H' => Same H7 H' ∧ ∃ ns : List Int, acc = ns.map V.int ∧ ns.length = i ∧ ∀ v ∈ ns, ∃ w, WayD (nxOf b rs) wt rs.length one other w ∧ v = wsum (nxOf b rs) 1 w) ⟨same_new nE, [], rfl, rfl, fun v hv => by cases hv⟩ (fun i acc _ _ H' _ ⟨s, e⟩ => ⟨same_mut s nE, e⟩) (fun i acc H' _ ⟨s, e⟩ => sqL (s _ _ eD)) (fun i acc H' hi ⟨s, ns, e, l, _⟩ => by rw [e, List.length_map, l]; rw [List.length_map, lslen] at hi; exact szl (by omega)) (fun i xv acc H10 H11 hi eD0 ⟨s10, ns, e, l, f⟩ ⟨eH, exv⟩ Qy Qn ky kn => ?_) (fun acc H8 eE ⟨sE, nsE, e, lE, fE⟩ => ?_)
    · subst eH
      rw [List.getElem?_map] at exv
      obtain ⟨lw, elw, rfl⟩ : ∃ lw, ls[i]? = some lw ∧ xv = V.ref lw := by
        cases z : ls[i]? with
        | none => rw [z] at exv; cases exv
        | some a => rw [z] at exv; exact ⟨a, rfl, (Option.some.inj exv).symm⟩
      obtain ⟨_, _, ww, v1, v2⟩ := lsf lw (List.mem_of_getElem? elw)
      have v1' := (s10) _ _ v1
      refine ⟨rfl, _, rfl, _, rfl, s, lw, rs.length, 1, nxOf b rs, ww, rfl, (hs7.2.1.same (s10)), gr.toGrOk, .inl v1', by have := v2.len; omega, v2.lt, v2.ch.mono (fun x y h => (bh_mem.mp h).2.1), .inr rfl, fun H12 s12' => ?_⟩
      refine ky _ _ (s12' _ _ eD0) ⟨s10.trans s12', ns ++ [_], by rw [e, List.map_append]; rfl, by rw [List.length_append, l]; rfl, fun v hv => ?_⟩
      rcases List.mem_append.mp hv with z | z
      · exact f v z
      · rw [List.mem_singleton.mp z]
        exact ⟨ww, v2, rfl⟩
    subst e
    rw [List.length_map, lslen] at lE
    refine ⟨E, nsE, rfl, sqL eE, by omega, fun mx hmx _ => ?_⟩
    obtain ⟨wm, wm1, wm2⟩ := fE mx hmx
    have eD8 := sE _ _ eD
    refine ⟨_, rfl, D, rfl, ⟨_, sqL eD8⟩, fun F nF => ?_⟩
    refine lc_st (walk_list (K := K) (a := D) (xs := ls.map V.ref)) (fun i acc H' => Same H8 H' ∧ ∃ ns : List Int, acc = ns.map V.int ∧ ns.length = i ∧ ∀ v ∈ ns, ∃ w, WayD (nxOf b rs) wt rs.length one other w ∧ v = wsum (nxOf b rs) 0 w) ⟨same_new nF, [], rfl, rfl, fun v hv => by cases hv⟩ (fun i acc _ _ H' _ ⟨s, e⟩ => ⟨same_mut s nF, e⟩) (fun i acc H' _ ⟨s, e⟩ => sqL (s _ _ eD8)) (fun i acc H' hi ⟨s, ns, e, l, _⟩ => by rw [e, List.length_map, l]; rw [List.length_map, lslen] at hi; exact szl (by omega)) (fun i xv acc H10 H11 hi eD0 ⟨s10, ns, e, l, f⟩ ⟨eH, exv⟩ Qy Qn ky kn => ?_) (fun acc H9 eF ⟨sF, nsF, e, lF, fF⟩ => ?_)
    · subst eH
      rw [List.getElem?_map] at exv
      obtain ⟨lw, elw, rfl⟩ : ∃ lw, ls[i]? = some lw ∧ xv = V.ref lw := by
        cases z : ls[i]? with
        | none => rw [z] at exv; cases exv
        | some a => rw [z] at exv; exact ⟨a, rfl, (Option.some.inj exv).symm⟩
      obtain ⟨_, _, ww, v1, v2⟩ := lsf lw (List.mem_of_getElem? elw)
      have v1' := (sE.trans s10) _ _ v1
      refine ⟨rfl, _, rfl, _, rfl, s, lw, rs.length, 0, nxOf b rs, ww, rfl, (hs7.2.1.same (sE.trans s10)), gr.toGrOk, .inl v1', by have := v2.len; omega, v2.lt, v2.ch.mono (fun x y h => (bh_mem.mp h).2.1), .inl rfl, fun H12 s12' => ?_⟩
      refine ky _ _ (s12' _ _ eD0) ⟨s10.trans s12', ns ++ [_], by rw [e, List.map_append]; rfl, by rw [List.length_append, l]; rfl, fun v hv => ?_⟩
      rcases List.mem_append.mp hv with z | z
      · exact f v z
      · rw [List.mem_singleton.mp z]
        exact ⟨ww, v2, rfl⟩
    subst e
    rw [List.length_map, lslen] at lF
    refine ⟨F, nsF, rfl, sqL eF, by omega, fun mn hmn _ => ?_⟩
    obtain ⟨wn, wn1, wn2⟩ := fF mn hmn
    have hmin : B ≤ mn := by rw [wn2]; exact (wn1.sum gr plok).1 rfl
    have s79 := sE.trans sF
    have b19 := b17.trans (SB.of (d := d) s79)
    have hd9 := hd7.same s79
    have b69 := b7.trans (SB.of (d := d) s79)
    have tpk : ∀ {t : Addr} {ys : List V}, SqT K H6 t ys → SqT K H9 t ys := fun {t ys} h => by
      obtain ⟨nsd, end_⟩ := hd6
      rcases h with (h | ⟨o, h⟩) | h
      · exact .inl (.inl (b69 _ _ (ne_of h end_ (fun z => by cases z)) h))
      · exact .inl (.inr ⟨o, b69 _ _ (ne_of h end_ (fun z => by cases z)) h⟩)
      · exact .inr h
    have prk : ∀ {t : Addr} {ps : List Price}, PricesAt K H6 t ps → PricesAt K H9 t ps := fun {t ps} h => by
      obtain ⟨vs, a, b9, c⟩ := h
      refine ⟨vs, tpk a, b9, fun i v p e1 e2 => ?_⟩
      have q9 := c i v p e1 e2
      cases p with
      | no => exact q9
      | closed =>
        obtain ⟨t9, u1, u2⟩ := q9
        exact ⟨t9, u1, b69.tup hd6 u2⟩
      | int j => exact q9
    obtain ⟨tw6, tq6, pa61, pa62, pa63⟩ := pa6
    have ha9 : HighAt K H9 th x := by
      cases x with
      | most B w ps =>
        obtain ⟨a1, a2, a3, a4, a5⟩ := ha6
        exact ⟨a1, a2, tpk a3, tpk a4, prk a5⟩
      | round w u =>
        obtain ⟨a1, a2, a3, ⟨o, a4, a4'⟩, a5⟩ := ha6
        obtain ⟨nsd, end_⟩ := id hd6
        exact ⟨a1, a2, tpk a3, ⟨o, b69 _ _ (ne_of a4 end_ (fun z => by cases z)) a4, a4'⟩, tpk a5⟩
    have hs9 := hs7.same s79
    refine ⟨_, rfl, tl, _, _, _, rfl, rfl, tpk pa61, atI_nat (j := 0) rfl, _, _, rfl, rfl, false, congrArg V.bl (decide_eq_false (by omega)), ?_⟩
    refine ⟨_, rfl, _, rfl, _, rfl, _, rfl, _, rfl, p, s, tl, tw6, tq6, rs, nxOf b rs, wt, ps, w, one, other, 0, B, rfl, hs9, tpk pa61, tpk pa62, prk pa63, plok, .inl rfl, fun H10 s10 => ⟨true, rfl, ?_⟩⟩
    refine ⟨_, rfl, _, rfl, _, rfl, _, rfl, _, rfl, _, rfl, p, s, th, rs, nxOf b rs, wt, one, other, x, mx, rfl, hs9.same s10, hends.1, ha9.same s10, hok, fun B' w' ps' ex => ?_, fun H11 s11 => ?_⟩
    · subst ex
      rw [wm2]
      exact (wm1.sum gr hok).2 (by decide)
    · exact q _ (b19.trans (SB.of (s10.trans s11))) (hd9.same (s10.trans s11))
end
end B65

end

section
set_option Elab.async false
set_option linter.all false
set_option maxRecDepth 100000
set_option maxHeartbeats 8000000
namespace B65
open PySem PySem.Spec PyProof.Rows L2
section
variable {P : Program} {w : World} {K : PySem.W.Frag} {mg : Str → Option Value} {base : Heap}
def wtOf (rs : List Row) (i : Nat) : Bool := match rs[i]? with
  | some r => decide (r.deed = ("wait" : Str))
  | none => false
theorem wtOf_ok (rs : List Row) : Waits rs (wtOf rs) := fun i r e => by
  unfold wtOf
  rw [e]
def PV (H : Hp) (rs : List Row) (G : Nat → List Edge) (wt : Nat → Bool) (v : V) : Prop := v = .non ∨ ∃ (t : Addr) (one other : Nat), v = .ref t ∧ H t = some (.tup [.int (one : Int), .int (other : Int)]) ∧ PairOk rs G wt one other
theorem PV.sb {d : Addr} {H H' : Hp} {rs : List Row} {G : Nat → List Edge} {wt : Nat → Bool} {v : V} (s : SB d H H') (hd : DeckAt H d) (h : PV H rs G wt v) : PV H' rs G wt v := by
  rcases h with h | ⟨t, one, other, a, b, c⟩
  · exact .inl h
  · exact .inr ⟨t, one, other, a, s.tup hd b, c⟩
theorem DrawnOk.po {rs : List Row} {b : Int} (h : DrawnOk rs) (hb : b + longOf rs ≤ 256) : PO rs b := by
  obtain ⟨g, g0, g1, g2, g3, g4⟩ := h.g
  exact ⟨h.l120, hb, g, g1, g2, g3⟩
def sp_law (K : PySem.W.Frag) : Sp := fun vs H Q _ => ∃ (a : Addr) (ns : List Int), vs = [.ref a] ∧ SqL K H a (ns.map V.int) ∧ ∀ H', Q (.bl true) H'
theorem sc_law : FnScope ["_law_script", "_law_deck_here", "_law_long_one", "_law_k", "_law_program", "_law_base_here", "_law_steps_here", "_law_pair_here"] ["_law_script"] (defScope (topS 97)) := ⟨rfl, rfl, rfl, by decide +kernel, rfl, by decide +kernel, by decide +kernel⟩
theorem ok_lawF (T : Txt K mg) {fd : FuncData} (F : FunD K "law" "law" (defArgs (topS 97)) (defBody (topS 97)) (defScope (topS 97)) [] [] (He.ga K "law") fd) : FnOk P w K mg base CX0 11 (He.ga K "law") fd ["_law_script"] (sp_law K) := by
  obtain ⟨fd_ldeck, G_ldeck, kp_ldeck, b_ldeck⟩ := ok__law_deck (P := P) (w := w) (base := base) T
  obtain ⟨fd_lnext, G_lnext, kp_lnext, b_lnext⟩ := ok__law_next (P := P) (w := w) (base := base) T
  obtain ⟨fd_lflow, G_lflow, kp_lflow, b_lflow⟩ := ok__law_flow (P := P) (w := w) (base := base) T
  obtain ⟨fd_llong_flow, G_llong_flow, kp_llong_flow, b_llong_flow⟩ := ok__law_long_flow (P := P) (w := w) (base := base) T
  obtain ⟨fd_lbase, G_lbase, kp_lbase, b_lbase⟩ := ok__law_base (P := P) (w := w) (base := base) T
  obtain ⟨fd_lsteps, G_lsteps, kp_lsteps, b_lsteps⟩ := ok__law_steps (P := P) (w := w) (base := base) T
  obtain ⟨fd_lpair, G_lpair, kp_lpair, b_lpair⟩ := ok__law_pair (P := P) (w := w) (base := base) T
  obtain ⟨fd_lright, G_lright, kp_lright, b_lright⟩ := ok__law_right (P := P) (w := w) (base := base) T
  refine F.ok sc_law (fun vs H Q E h => ?_) (fun cdv A outer s H vs Q E hr h => ?_)
  · obtain ⟨a, ns, rfl, _⟩ := h
    rfl
  · obtain ⟨a, ns, rfl, ha, q⟩ := h
    have hu := hu_of hr
    refine ⟨_, PSs.nox (pss_cons (ps_set (i := 1) sc_law.nd rfl (by first | exact Or.inl rfl | exact Or.inr rfl) (pe_call G_ldeck (hr.mono (by decide)) (by rfl) T.g__law_deck kp_ldeck b_ldeck .nil pass0 (pa_cons (pv 0) (pa_cons pe_int pa_nil))))
      (pss_cons (ps_set (i := 2) sc_law.nd rfl (by first | exact Or.inl rfl | exact Or.inr rfl) (pe_cmpR op_eq (pe_op op_mod (pe_call G_lnext (hr.mono (by decide)) (by rfl) T.g__law_next kp_lnext b_lnext .nil pass0 (pa_cons (pv 1) pa_nil)) pe_int) pe_int (nomark _)))
      (pss_cons (ps_for PassesOwn.never rfl (pi_range1 (by rfl) T.z_range (pa_cons pe_int pa_nil)) (pg_name (i := 3) sc_law.nd rfl (by first | exact Or.inl rfl | exact Or.inr rfl))
      (pss_cons (ps_set (i := 4) sc_law.nd rfl (by first | exact Or.inl rfl | exact Or.inr rfl) (pe_call G_lflow (hr.mono (by decide)) (by rfl) T.g__law_flow kp_lflow b_lflow .nil pass0 (pa_cons (pv 1) pa_nil)))
      (Evl.pss_cut (ps_if (PW.pt (pw_and (pt_val (pv 2)) (pw_and1 (pt_cmpR op_eq (pv 3) pe_int (nomark _)))))
      (pss_one (ps_set (i := 4) sc_law.nd rfl (by first | exact Or.inl rfl | exact Or.inr rfl) (pe_call G_llong_flow (hr.mono (by decide)) (by rfl) T.g__law_long_flow kp_llong_flow b_llong_flow .nil pass0 (pa_cons (pv 1) pa_nil))))
      pss_nil)
      (pss_cons (ps_set (i := 5) sc_law.nd rfl (by first | exact Or.inl rfl | exact Or.inr rfl) (pe_call G_lbase (hr.mono (by decide)) (by rfl) T.g__law_base kp_lbase b_lbase .nil pass0 (pa_cons (pv 1) (pa_cons (pv 4) pa_nil))))
      (pss_cons (ps_set (i := 6) sc_law.nd rfl (by first | exact Or.inl rfl | exact Or.inr rfl) (pe_call G_lsteps (hr.mono (by decide)) (by rfl) T.g__law_steps kp_lsteps b_lsteps .nil pass0 (pa_cons (pv 4) (pa_cons (pv 5) pa_nil))))
      (pss_one (ps_for PassesOwn.never rfl (pi_list (pe_lst (pa_cons (pe_call G_lpair (hr.mono (by decide)) (by rfl) T.g__law_pair kp_lpair b_lpair .nil pass0 (pa_cons (pv 1) (pa_cons (pv 4) (pa_cons (pv 6) pa_nil)))) (pa_cons (pe_call G_lpair (hr.mono (by decide)) (by rfl) T.g__law_pair kp_lpair b_lpair .nil pass0 (pa_cons (pv 1) (pa_cons (pv 4) (pa_cons (pv 6) pa_nil)))) pa_nil)))) (pg_name (i := 7) sc_law.nd rfl (by first | exact Or.inl rfl | exact Or.inr rfl))
      (pss_one (ps_if (PW.pt (pw_and (pt_cmpR op_notN (pv 7) pe_non (nomark _)) (pw_and1 (pt_not (pt_val (pe_call G_lright hr (by rfl) T.g__law_right kp_lright b_lright .nil pass0 (pa_cons (pv 1) (pa_cons (pv 4) (pa_cons (pv 5) (pa_cons (pv 6) (pa_cons (pv 7) pa_nil)))))))))))
      (pss_one (ps_ret pe_bl))
      pss_nil)))))))))
      (pss_one (ps_ret pe_bl))))), ?_⟩
    refine ⟨_, rfl, a, ns, 2700, rfl, ha, by decide, fun H1 d s1 nd hd1 => ?_⟩
    refine ⟨_, rfl, d, rfl, hd1, fun H2 x s2 hd2 => ⟨_, _, rfl, rfl, (by show (0 : Int) < 8; decide), rfl, ?_⟩⟩
    obtain ⟨bb, hbb⟩ : ∃ bb : Bool, bb = decide (V.int (x % 8) = V.int 0) := ⟨_, rfl⟩
    refine ⟨_, rfl, by decide, by decide, for_it walk_rng (fun i σ H' => ∃ (x3 x4 x5 x6 x7 : Option V), σ = [some (.ref a), some (.ref d), some (.bl (decide (V.int (x % 8) = V.int 0))), x3, x4, x5, x6, x7] ∧ DeckAt H' d) ⟨none, none, none, none, none, rfl, hd2⟩ (fun _ _ _ _ _ => trivial) ?_ ?_⟩
    · rintro i xv σ H3 H' hi ⟨x3, x4, x5, x6, x7, rfl, hd3⟩ ⟨rfl, rfl⟩
      refine ⟨_, rfl, d, rfl, hd3, fun H4 p4 rs4 s4 hd4 np4 hp4 dr4 => ?_⟩
      refine ⟨fun σ' H' => ∃ (p : Addr) (rs : List Row), σ' = [some (.ref a), some (.ref d), some (.bl (decide (V.int (x % 8) = V.int 0))), some (.int (i : Int)), some (.ref p), x5, x6, x7] ∧ DeckAt H' d ∧ ProgAt H' p rs ∧ DrawnOk rs, ?_, ?_⟩
      · have keep : ∃ (p : Addr) (rs : List Row), [some (V.ref a), some (V.ref d), some (V.bl (decide (V.int (x % 8) = V.int 0))), some (V.int (i : Int)), some (V.ref p4), x5, x6, x7] = [some (.ref a), some (.ref d), some (.bl (decide (V.int (x % 8) = V.int 0))), some (.int (i : Int)), some (.ref p), x5, x6, x7] ∧ DeckAt H4 d ∧ ProgAt H4 p rs ∧ DrawnOk rs := ⟨p4, rs4, rfl, hd4, hp4, dr4⟩
        refine ⟨_, rfl, _, rfl, ite2 (fun _ => ?_) (fun _ => keep)⟩
        refine ⟨_, rfl, rfl, _, rfl, ite2 (fun _ => ?_) (fun _ => keep)⟩
        exact ⟨_, rfl, d, rfl, hd4, fun H5 p5 rs5 s5 hd5 np5 hp5 dr5 => ⟨p5, rs5, rfl, hd5, hp5, dr5⟩⟩
      rintro σ' H5 ⟨p, rs, rfl, hd5, hp5, dr⟩
      obtain ⟨g, g0, g1, g2, g3, g4⟩ := dr.g
      refine ⟨_, rfl, _, rfl, d, p, rs, rfl, hd5, hp5, dr.l120, dr.deeds, fun H6 b s6 hd6 hb0 hb => ?_⟩
      have hp6 := hp5.sb s6 hd5
      have po := dr.po hb
      have gr : GraOk (nxOf b rs) rs.length := gra_ok dr.l120 g1 g2
      refine ⟨_, rfl, _, rfl, p, rs, b, g, rfl, hp6, dr.l120, dr.deeds, g2, g1, fun H7 st s7 hst => ?_⟩
      have hd7 := hd6.same s7
      have lg7 : LG H7 p st rs (nxOf b rs) (wtOf rs) := ⟨hp6.same s7, hst, gr, wtOf_ok rs⟩
      have hgl : ∀ i e, i < rs.length → e ∈ nxOf b rs i → e.1 < g := fun i e hi he => by
        have er : rs[i]? = some rs[i] := List.getElem?_eq_getElem hi
        exact ((nx_all (b := b) er (g2 i _ er)).2 e he).1
      have h0 : 0 < rs.length := by omega
      refine ⟨_, rfl, _, rfl, _, rfl, d, p, st, rs, nxOf b rs, wtOf rs, g, rfl, hd7, lg7, hgl, g3, g4, fun H8 v1 s8 hd8 hv1 => ?_⟩
      have lg8 := lg7.sb s8 hd7 h0
      refine ⟨_, rfl, _, rfl, _, rfl, d, p, st, rs, nxOf b rs, wtOf rs, g, rfl, hd8, lg8, hgl, g3, g4, fun H9 v2 s9 hd9 hv2 => ?_⟩
      have lg9 := lg8.sb s9 hd8 h0
      have pv1 : PV H9 rs (nxOf b rs) (wtOf rs) v1 := PV.sb s9 hd8 hv1
      have pv2 : PV H9 rs (nxOf b rs) (wtOf rs) v2 := hv2
      refine ⟨by show 2 ≤ sizeLine; decide, fun l nl => ?_⟩
      have nel := hd9.ne nl
      have t10 := same_new (o := .lst [v1, v2]) nl
      have el : upd H9 l (.lst [v1, v2]) l = some (.lst [v1, v2]) := upd_same
      have hd10 := hd9.same t10
      have lg10 := lg9.same t10
      have pv1' := PV.sb (SB.of (d := d) t10) hd9 pv1
      have pv2' := PV.sb (SB.of (d := d) t10) hd9 pv2
      generalize upd H9 l (.lst [v1, v2]) = H10 at *
      refine ⟨l, rfl, ⟨_, sqL el⟩, for_it (walk_list (K := K) (a := l) (xs := [v1, v2])) (fun j σ H' => ∃ (x7 : Option V), σ = [some (.ref a), some (.ref d), some (.bl (decide (V.int (x % 8) = V.int 0))), some (.int (i : Int)), some (.ref p), some (.int b), some (.ref st), x7] ∧ SB d H10 H' ∧ DeckAt H' d) ⟨x7, rfl, SB.refl _ _, hd10⟩ (fun j σ H' _ ⟨_, _, s, _⟩ => sqL (s.lst nel el)) ?_ ?_⟩
      · rintro j yv σ H11 H' hj ⟨x7, rfl, s11, hd11⟩ ⟨rfl, eyv⟩
        have pvy : PV H' rs (nxOf b rs) (wtOf rs) yv := by
          match j, eyv with
          | 0, eyv => cases eyv; exact PV.sb s11 hd10 pv1'
          | 1, eyv => cases eyv; exact PV.sb s11 hd10 pv2'
          | j + 2, eyv => simp at eyv
        rcases pvy with rfl | ⟨t, one, other, rfl, et, pk9⟩
        · exact ⟨_, rfl, rfl, false, rfl, _, rfl, s11, hd11⟩
        · refine ⟨_, rfl, rfl, true, rfl, ?_⟩
          exact ⟨_, rfl, _, rfl, _, rfl, _, rfl, _, rfl, d, p, st, t, rs, b, wtOf rs, one, other, rfl, hd11, lg10.sb s11 hd10 h0, po, et, pk9, fun H12 s12 hd12 => ⟨true, rfl, _, rfl, s11.trans s12, hd12⟩⟩
      · rintro σ H' ⟨x7, rfl, s11, hd11⟩
        exact ⟨_, _, _, _, _, rfl, hd11⟩
    · rintro σ H' ⟨x3, x4, x5, x6, x7, rfl, hd3⟩
      exact q _
end
end B65

end

section
set_option Elab.async false
set_option linter.all false
set_option maxRecDepth 100000
set_option maxHeartbeats 0
namespace B65
open PySem PySem.Spec PyProof.Rows L2
theorem facts {P : Program} {w : World} {K : PySem.W.Frag} {h : Heap} {mg : Str → Option Value} {f : Addr} (X : K.In h) (G : h.Ns mainGlobals mg) (hfa : mg ("law" : Str) = some (.ref f)) (c : SaysB K) :
    ∃ fd : FuncData, (∀ (s : Shared) (v : Value), BindsTo s fd ⟨[v], []⟩ [("_law_script", v)]) ∧ ∀ base : Heap, K.In base → base.Ns mainGlobals mg → FnOk P w K mg base CX0 11 f fd ["_law_script"] (sp_law K) := by
  have T : Txt K mg := ⟨c, h, X, G⟩
  obtain ⟨fd, F⟩ := T.d_law
  have e := hfa.symm.trans T.g_law
  cases e
  have b := FunD.bindsA (ps := ["_law_script"]) F fun _ _ _ _ _ _ us hl => match us, hl with | [_], _ => rfl
  exact ⟨fd, fun s v => b s [v] rfl, fun base _ _ => ok_lawF T F⟩
end B65
open PySem PySem.W PySem.Calls PyProof.Rows
theorem PySem.Challenge.cw_beamrows_k65_whole_ways_between_holds : PySem.Challenge.rw_beamrows_k65_whole_ways_between.Holds := by
  w_on; o_law
  refine HandSHeadRun.head_any (r := OpenLaw.row PySem.Challenge.rw_beamrows_k65_whole_ways_between) (q := view (OpenLaw.row PySem.Challenge.rw_beamrows_k65_whole_ways_between).prog [97]) (H := B65.hookB) (ob := B65.obB) (M := 4000) (loose := B65.names) (d := HandSHeadRun.topDef (OpenLaw.row PySem.Challenge.rw_beamrows_k65_whole_ways_between).prog 97) (kwd := []) B65.obB_eq
    (by kernel_rfl) (fun s => by kernel_rfl) B65.run (by kernel_rfl) (by kernel_rfl) (by kernel_rfl) (by rfl) (by first | assumption | decide +kernel) (by decide +kernel) ⟨rfl, rfl, rfl, rfl, rfl, by decide +kernel⟩ ?hw ?hc
  case hw => w_witness2
  case hc =>
    refine L2.walk_ofE (l := PySem.Challenge.rw_beamrows_k65_whole_ways_between) (n := 63) (k := 11) (x := "_law_script") (CX := L2.CX0) rfl (by decide) (by kernel_rfl) ⟨rfl, by decide, by decide⟩ ?F (fun _ _ _ _ z => z)
    intro w mg fa h Y G hmg0
    obtain ⟨K, KX, c⟩ := Y
    have hmg : mg ("law" : PySem.Str) = some (.ref fa) := by
      have e : (HandSHeadRun.topDef (OpenLaw.row PySem.Challenge.rw_beamrows_k65_whole_ways_between).prog 97).name = ("law" : PySem.Str) := by kernel_rfl
      rw [← e]
      exact hmg0
    obtain ⟨fd, hb, hF⟩ := B65.facts (P := (PySem.Challenge.rw_beamrows_k65_whole_ways_between).prog) (w := w) KX G hmg c
    exact ⟨K, fd, B65.sp_law K, KX, hb, fun H a ns hl _ hS => ⟨a, ns, rfl, hS, fun _ => rfl⟩, hF⟩

end
