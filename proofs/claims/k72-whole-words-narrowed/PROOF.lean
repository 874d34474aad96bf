import PyProof.Rows.All
import Wide.All
import OpenK.AllK
import Wide.FinOn
import HandS.ForMost
import HandS.Exc
import HandS.ExcInit
import HandS.ExcField
import HandS.Defaults
import HandS.HeadHook1
import HandS.HeadHook2
import PySem.Challenge.RW_wrongcoats_k72_whole_words_narrowed
import KE.KStateDown
import HandS.Head0
import HandS.Head1
import HandS.Head2
import HandS.HeadEnd
import HandS.HeadHook3
import HandS.HeadHook4
import HandS.WordsExc
import HandS.Deep
import HandS.TupAny
import HandS.Rev
import HandS.Style
import HandS.DictComp
import HandS.IsInst
import HandS.Zip
import KE.KDictZip
import KE.GoesEnum
import KE.DataFind
import KE.DataCmp
import KE.DataMinMax
import KE.DataEq
import KE.KIndexOf
import KE.SortData
import KE.KRevSl
import PyProof.ReprRoads
import PyProof.MaxThree
import KE.KDictLaws
import HandS.Walk
import HandS.WordsDict
import HandS.Ends
import HandS.EndBits
import HandS.ExcValue
import HandS.CallSlots
import HandS.ExcOwn
set_option Elab.async false
set_option linter.all false
set_option maxRecDepth 100000
set_option maxHeartbeats 4000000
namespace WC
open PySem PySem.Spec PyProof.Rows L2
/-! ### the text by places -/
def top (i : Nat) : Stmt := PySem.Challenge.pw_wrongcoats_k72_whole_words_narrowed.main.body.getD i (.Pass ⟨0, 0, 0, 0⟩)
abbrev s_is_seeker : Stmt := top 6
abbrev s_seekers : Stmt := top 7
abbrev s_hook_of : Stmt := top 8
abbrev s_look_goers : Stmt := top 10
abbrev s_goes : Stmt := top 11
abbrev s_way_of : Stmt := top 13
abbrev s_is_ahead : Stmt := top 14
abbrev s_why_not : Stmt := top 15
abbrev s_can_be : Stmt := top 16
abbrev s_look_way : Stmt := top 18
abbrev s_firsts : Stmt := top 19
abbrev s_needs : Stmt := top 20
abbrev s_has_words : Stmt := top 22
abbrev s_pairs_of : Stmt := top 23
abbrev s_ring_of : Stmt := top 24
abbrev s_order_by : Stmt := top 25
abbrev s_sure_pairs : Stmt := top 26
abbrev s_shows_ring : Stmt := top 27
abbrev s_fewest_words : Stmt := top 28
abbrev s_L_box : Stmt := top 30
abbrev s_L_take : Stmt := top 31
abbrev s_L_folded : Stmt := top 32
abbrev s_L_of : Stmt := top 34
abbrev s_L_names : Stmt := top 35
abbrev s_L_strewn : Stmt := top 36
abbrev s_L_night : Stmt := top 37
abbrev s_L_seeks : Stmt := top 38
abbrev s_L_went : Stmt := top 39
abbrev s_L_said : Stmt := top 40
abbrev s_L_has_all : Stmt := top 41
abbrev s_L_ring : Stmt := top 42
abbrev s_L_is_ring : Stmt := top 43
abbrev s_L_ring_right : Stmt := top 44
abbrev s_L_fewest_right : Stmt := top 45
abbrev s_L_step : Stmt := top 46
abbrev s_L_right : Stmt := top 47
abbrev s_law : Stmt := top 48
abbrev s_Ring_init : Stmt := inClass (top 4) 0
abbrev aRing (K : PySem.W.Frag) : Addr := He.ga K "Ring"
abbrev aRingI (K : PySem.W.Frag) : Addr := He.ma K (He.ga K "Ring") "__init__"
/-- what the top has written -/
structure Tx (K : PySem.W.Frag) (mg : Str → Option Value) where
  fd_is_seeker : FuncData
  F_is_seeker : FunD K "is_seeker" "is_seeker" (defArgs s_is_seeker) (defBody s_is_seeker) (defScope s_is_seeker) [] [] (He.ga K "is_seeker") fd_is_seeker
  g_is_seeker : mg "is_seeker" = some (.ref (He.ga K "is_seeker"))
  fd_seekers : FuncData
  F_seekers : FunD K "seekers" "seekers" (defArgs s_seekers) (defBody s_seekers) (defScope s_seekers) [] [] (He.ga K "seekers") fd_seekers
  g_seekers : mg "seekers" = some (.ref (He.ga K "seekers"))
  fd_hook_of : FuncData
  F_hook_of : FunD K "hook_of" "hook_of" (defArgs s_hook_of) (defBody s_hook_of) (defScope s_hook_of) [] [] (He.ga K "hook_of") fd_hook_of
  g_hook_of : mg "hook_of" = some (.ref (He.ga K "hook_of"))
  fd_look_goers : FuncData
  F_look_goers : FunD K "look_goers" "look_goers" (defArgs s_look_goers) (defBody s_look_goers) (defScope s_look_goers) [] [] (He.ga K "look_goers") fd_look_goers
  g_look_goers : mg "look_goers" = some (.ref (He.ga K "look_goers"))
  fd_goes : FuncData
  F_goes : FunD K "goes" "goes" (defArgs s_goes) (defBody s_goes) (defScope s_goes) [] [] (He.ga K "goes") fd_goes
  g_goes : mg "goes" = some (.ref (He.ga K "goes"))
  fd_way_of : FuncData
  F_way_of : FunD K "way_of" "way_of" (defArgs s_way_of) (defBody s_way_of) (defScope s_way_of) [] [] (He.ga K "way_of") fd_way_of
  g_way_of : mg "way_of" = some (.ref (He.ga K "way_of"))
  fd_is_ahead : FuncData
  F_is_ahead : FunD K "is_ahead" "is_ahead" (defArgs s_is_ahead) (defBody s_is_ahead) (defScope s_is_ahead) [] [] (He.ga K "is_ahead") fd_is_ahead
  g_is_ahead : mg "is_ahead" = some (.ref (He.ga K "is_ahead"))
  fd_why_not : FuncData
  F_why_not : FunD K "why_not" "why_not" (defArgs s_why_not) (defBody s_why_not) (defScope s_why_not) [] [] (He.ga K "why_not") fd_why_not
  g_why_not : mg "why_not" = some (.ref (He.ga K "why_not"))
  fd_can_be : FuncData
  F_can_be : FunD K "can_be" "can_be" (defArgs s_can_be) (defBody s_can_be) (defScope s_can_be) [] [] (He.ga K "can_be") fd_can_be
  g_can_be : mg "can_be" = some (.ref (He.ga K "can_be"))
  fd_look_way : FuncData
  F_look_way : FunD K "look_way" "look_way" (defArgs s_look_way) (defBody s_look_way) (defScope s_look_way) [] [] (He.ga K "look_way") fd_look_way
  g_look_way : mg "look_way" = some (.ref (He.ga K "look_way"))
  fd_firsts : FuncData
  F_firsts : FunD K "firsts" "firsts" (defArgs s_firsts) (defBody s_firsts) (defScope s_firsts) [] [] (He.ga K "firsts") fd_firsts
  g_firsts : mg "firsts" = some (.ref (He.ga K "firsts"))
  fd_needs : FuncData
  F_needs : FunD K "needs" "needs" (defArgs s_needs) (defBody s_needs) (defScope s_needs) [] [] (He.ga K "needs") fd_needs
  g_needs : mg "needs" = some (.ref (He.ga K "needs"))
  fd_has_words : FuncData
  F_has_words : FunD K "has_words" "has_words" (defArgs s_has_words) (defBody s_has_words) (defScope s_has_words) [] [] (He.ga K "has_words") fd_has_words
  g_has_words : mg "has_words" = some (.ref (He.ga K "has_words"))
  fd_pairs_of : FuncData
  F_pairs_of : FunD K "pairs_of" "pairs_of" (defArgs s_pairs_of) (defBody s_pairs_of) (defScope s_pairs_of) [] [] (He.ga K "pairs_of") fd_pairs_of
  g_pairs_of : mg "pairs_of" = some (.ref (He.ga K "pairs_of"))
  fd_ring_of : FuncData
  F_ring_of : FunD K "ring_of" "ring_of" (defArgs s_ring_of) (defBody s_ring_of) (defScope s_ring_of) [] [] (He.ga K "ring_of") fd_ring_of
  g_ring_of : mg "ring_of" = some (.ref (He.ga K "ring_of"))
  fd_order_by : FuncData
  F_order_by : FunD K "order_by" "order_by" (defArgs s_order_by) (defBody s_order_by) (defScope s_order_by) [] [] (He.ga K "order_by") fd_order_by
  g_order_by : mg "order_by" = some (.ref (He.ga K "order_by"))
  fd_sure_pairs : FuncData
  F_sure_pairs : FunD K "sure_pairs" "sure_pairs" (defArgs s_sure_pairs) (defBody s_sure_pairs) (defScope s_sure_pairs) [] [] (He.ga K "sure_pairs") fd_sure_pairs
  g_sure_pairs : mg "sure_pairs" = some (.ref (He.ga K "sure_pairs"))
  fd_shows_ring : FuncData
  F_shows_ring : FunD K "shows_ring" "shows_ring" (defArgs s_shows_ring) (defBody s_shows_ring) (defScope s_shows_ring) [] [] (He.ga K "shows_ring") fd_shows_ring
  g_shows_ring : mg "shows_ring" = some (.ref (He.ga K "shows_ring"))
  fd_fewest_words : FuncData
  F_fewest_words : FunD K "fewest_words" "fewest_words" (defArgs s_fewest_words) (defBody s_fewest_words) (defScope s_fewest_words) [] [] (He.ga K "fewest_words") fd_fewest_words
  g_fewest_words : mg "fewest_words" = some (.ref (He.ga K "fewest_words"))
  fd_L_box : FuncData
  F_L_box : FunD K "_law_box" "_law_box" (defArgs s_L_box) (defBody s_L_box) (defScope s_L_box) [] [] (He.ga K "_law_box") fd_L_box
  g_L_box : mg "_law_box" = some (.ref (He.ga K "_law_box"))
  fd_L_take : FuncData
  F_L_take : FunD K "_law_take" "_law_take" (defArgs s_L_take) (defBody s_L_take) (defScope s_L_take) [] [] (He.ga K "_law_take") fd_L_take
  g_L_take : mg "_law_take" = some (.ref (He.ga K "_law_take"))
  fd_L_folded : FuncData
  F_L_folded : FunD K "_law_folded" "_law_folded" (defArgs s_L_folded) (defBody s_L_folded) (defScope s_L_folded) [] [] (He.ga K "_law_folded") fd_L_folded
  g_L_folded : mg "_law_folded" = some (.ref (He.ga K "_law_folded"))
  fd_L_of : FuncData
  F_L_of : FunD K "_law_of" "_law_of" (defArgs s_L_of) (defBody s_L_of) (defScope s_L_of) [] [] (He.ga K "_law_of") fd_L_of
  g_L_of : mg "_law_of" = some (.ref (He.ga K "_law_of"))
  fd_L_names : FuncData
  F_L_names : FunD K "_law_names" "_law_names" (defArgs s_L_names) (defBody s_L_names) (defScope s_L_names) [] [] (He.ga K "_law_names") fd_L_names
  g_L_names : mg "_law_names" = some (.ref (He.ga K "_law_names"))
  fd_L_strewn : FuncData
  F_L_strewn : FunD K "_law_strewn" "_law_strewn" (defArgs s_L_strewn) (defBody s_L_strewn) (defScope s_L_strewn) [] [] (He.ga K "_law_strewn") fd_L_strewn
  g_L_strewn : mg "_law_strewn" = some (.ref (He.ga K "_law_strewn"))
  fd_L_night : FuncData
  F_L_night : FunD K "_law_night" "_law_night" (defArgs s_L_night) (defBody s_L_night) (defScope s_L_night) [] [] (He.ga K "_law_night") fd_L_night
  g_L_night : mg "_law_night" = some (.ref (He.ga K "_law_night"))
  fd_L_seeks : FuncData
  F_L_seeks : FunD K "_law_seeks" "_law_seeks" (defArgs s_L_seeks) (defBody s_L_seeks) (defScope s_L_seeks) [] [] (He.ga K "_law_seeks") fd_L_seeks
  g_L_seeks : mg "_law_seeks" = some (.ref (He.ga K "_law_seeks"))
  fd_L_went : FuncData
  F_L_went : FunD K "_law_went" "_law_went" (defArgs s_L_went) (defBody s_L_went) (defScope s_L_went) [] [] (He.ga K "_law_went") fd_L_went
  g_L_went : mg "_law_went" = some (.ref (He.ga K "_law_went"))
  fd_L_said : FuncData
  F_L_said : FunD K "_law_said" "_law_said" (defArgs s_L_said) (defBody s_L_said) (defScope s_L_said) [] [] (He.ga K "_law_said") fd_L_said
  g_L_said : mg "_law_said" = some (.ref (He.ga K "_law_said"))
  fd_L_has_all : FuncData
  F_L_has_all : FunD K "_law_has_all" "_law_has_all" (defArgs s_L_has_all) (defBody s_L_has_all) (defScope s_L_has_all) [] [] (He.ga K "_law_has_all") fd_L_has_all
  g_L_has_all : mg "_law_has_all" = some (.ref (He.ga K "_law_has_all"))
  fd_L_ring : FuncData
  F_L_ring : FunD K "_law_ring" "_law_ring" (defArgs s_L_ring) (defBody s_L_ring) (defScope s_L_ring) [] [] (He.ga K "_law_ring") fd_L_ring
  g_L_ring : mg "_law_ring" = some (.ref (He.ga K "_law_ring"))
  fd_L_is_ring : FuncData
  F_L_is_ring : FunD K "_law_is_ring" "_law_is_ring" (defArgs s_L_is_ring) (defBody s_L_is_ring) (defScope s_L_is_ring) [] [] (He.ga K "_law_is_ring") fd_L_is_ring
  g_L_is_ring : mg "_law_is_ring" = some (.ref (He.ga K "_law_is_ring"))
  fd_L_ring_right : FuncData
  F_L_ring_right : FunD K "_law_ring_right" "_law_ring_right" (defArgs s_L_ring_right) (defBody s_L_ring_right) (defScope s_L_ring_right) [] [] (He.ga K "_law_ring_right") fd_L_ring_right
  g_L_ring_right : mg "_law_ring_right" = some (.ref (He.ga K "_law_ring_right"))
  fd_L_fewest_right : FuncData
  F_L_fewest_right : FunD K "_law_fewest_right" "_law_fewest_right" (defArgs s_L_fewest_right) (defBody s_L_fewest_right) (defScope s_L_fewest_right) [] [] (He.ga K "_law_fewest_right") fd_L_fewest_right
  g_L_fewest_right : mg "_law_fewest_right" = some (.ref (He.ga K "_law_fewest_right"))
  fd_L_step : FuncData
  F_L_step : FunD K "_law_step" "_law_step" (defArgs s_L_step) (defBody s_L_step) (defScope s_L_step) [] [] (He.ga K "_law_step") fd_L_step
  g_L_step : mg "_law_step" = some (.ref (He.ga K "_law_step"))
  fd_L_right : FuncData
  F_L_right : FunD K "_law_right" "_law_right" (defArgs s_L_right) (defBody s_L_right) (defScope s_L_right) [] [] (He.ga K "_law_right") fd_L_right
  g_L_right : mg "_law_right" = some (.ref (He.ga K "_law_right"))
  fd_law : FuncData
  F_law : FunD K "law" "law" (defArgs s_law) (defBody s_law) (defScope s_law) [] [] (He.ga K "law") fd_law
  g_law : mg "law" = some (.ref (He.ga K "law"))
  n_ValueError : mg "ValueError" = none
  n_abs : mg "abs" = none
  n_all : mg "all" = none
  n_any : mg "any" = none
  n_divmod : mg "divmod" = none
  n_enumerate : mg "enumerate" = none
  n_int : mg "int" = none
  n_isinstance : mg "isinstance" = none
  n_len : mg "len" = none
  n_list : mg "list" = none
  n_max : mg "max" = none
  n_min : mg "min" = none
  n_range : mg "range" = none
  n_repr : mg "repr" = none
  n_reversed : mg "reversed" = none
  n_sorted : mg "sorted" = none
  n_str : mg "str" = none
  n_tuple : mg "tuple" = none
  n_zip : mg "zip" = none
  fd_Ring : FuncData
  F_Ring : FunD K "__init__" "Ring.__init__" (defArgs s_Ring_init) (defBody s_Ring_init) (defScope s_Ring_init) [] [] (aRingI K) fd_Ring
  g_Ring : mg "Ring" = some (.ref (aRing K))
  oex : OexC K (aRing K)
  iC : PySem.W.findIn K (.ref (aRing K)) "__init__" = some (some (.ref (aRingI K)))
  tI : PySem.W.typeIn K (.ref (aRingI K)) = some (.type "function")
  noW : PySem.W.findIn K (.ref (aRing K)) "what" = some none
  xf : XfC K (aRing K)
  te : PySem.W.exmOne K (.ref (aRing K)) (.ref (aRing K)) = some true
  vV : PySem.W.findCls K (.type "ValueError") (.type "type") "__init__" = some (.val (.builtin "ValueError.__init__"))
section
variable {K : PySem.W.Frag} {mg : Str → Option Value}
theorem Tx.b_is_seeker (T : Tx K mg) : Binds K T.fd_is_seeker ["evening", "guest"] [] := FunD.bindsN T.F_is_seeker fun _ _ _ _ _ _ us hl => match us, hl with | [_, _], _ => rfl
theorem Tx.b_seekers (T : Tx K mg) : Binds K T.fd_seekers ["evening"] [] := FunD.bindsN T.F_seekers fun _ _ _ _ _ _ us hl => match us, hl with | [_], _ => rfl
theorem Tx.b_hook_of (T : Tx K mg) : Binds K T.fd_hook_of ["evening", "coat"] [] := FunD.bindsN T.F_hook_of fun _ _ _ _ _ _ us hl => match us, hl with | [_, _], _ => rfl
theorem Tx.b_look_goers (T : Tx K mg) : Binds K T.fd_look_goers ["evening", "goers"] [] := FunD.bindsN T.F_look_goers fun _ _ _ _ _ _ us hl => match us, hl with | [_, _], _ => rfl
theorem Tx.b_goes (T : Tx K mg) : Binds K T.fd_goes ["evening", "goers"] [] := FunD.bindsN T.F_goes fun _ _ _ _ _ _ us hl => match us, hl with | [_, _], _ => rfl
theorem Tx.b_way_of (T : Tx K mg) : Binds K T.fd_way_of ["evening", "order"] [] := FunD.bindsN T.F_way_of fun _ _ _ _ _ _ us hl => match us, hl with | [_, _], _ => rfl
theorem Tx.b_is_ahead (T : Tx K mg) : Binds K T.fd_is_ahead ["evening", "guest", "coat"] [] := FunD.bindsN T.F_is_ahead fun _ _ _ _ _ _ us hl => match us, hl with | [_, _, _], _ => rfl
theorem Tx.b_why_not (T : Tx K mg) : Binds K T.fd_why_not ["evening", "way"] [] := FunD.bindsN T.F_why_not fun _ _ _ _ _ _ us hl => match us, hl with | [_, _], _ => rfl
theorem Tx.b_can_be (T : Tx K mg) : Binds K T.fd_can_be ["evening", "way"] [] := FunD.bindsN T.F_can_be fun _ _ _ _ _ _ us hl => match us, hl with | [_, _], _ => rfl
theorem Tx.b_look_way (T : Tx K mg) : Binds K T.fd_look_way ["evening", "way"] [] := FunD.bindsN T.F_look_way fun _ _ _ _ _ _ us hl => match us, hl with | [_, _], _ => rfl
theorem Tx.b_firsts (T : Tx K mg) : Binds K T.fd_firsts ["evening", "way"] [] := FunD.bindsN T.F_firsts fun _ _ _ _ _ _ us hl => match us, hl with | [_, _], _ => rfl
theorem Tx.b_needs (T : Tx K mg) : Binds K T.fd_needs ["evening", "way"] [] := FunD.bindsN T.F_needs fun _ _ _ _ _ _ us hl => match us, hl with | [_, _], _ => rfl
theorem Tx.b_has_words (T : Tx K mg) : Binds K T.fd_has_words ["order", "words"] [] := FunD.bindsN T.F_has_words fun _ _ _ _ _ _ us hl => match us, hl with | [_, _], _ => rfl
theorem Tx.b_pairs_of (T : Tx K mg) : Binds K T.fd_pairs_of ["evening", "way", "words"] [] := FunD.bindsN T.F_pairs_of fun _ _ _ _ _ _ us hl => match us, hl with | [_, _, _], _ => rfl
theorem Tx.b_ring_of (T : Tx K mg) : Binds K T.fd_ring_of ["left", "pairs"] [] := FunD.bindsN T.F_ring_of fun _ _ _ _ _ _ us hl => match us, hl with | [_, _], _ => rfl
theorem Tx.b_order_by (T : Tx K mg) : Binds K T.fd_order_by ["evening", "way", "words"] [] := FunD.bindsN T.F_order_by fun _ _ _ _ _ _ us hl => match us, hl with | [_, _, _], _ => rfl
theorem Tx.b_sure_pairs (T : Tx K mg) : Binds K T.fd_sure_pairs ["evening", "way", "words"] [] := FunD.bindsN T.F_sure_pairs fun _ _ _ _ _ _ us hl => match us, hl with | [_, _, _], _ => rfl
theorem Tx.b_shows_ring (T : Tx K mg) : Binds K T.fd_shows_ring ["evening", "way", "words", "thing"] [] := FunD.bindsN T.F_shows_ring fun _ _ _ _ _ _ us hl => match us, hl with | [_, _, _, _], _ => rfl
theorem Tx.b_fewest_words (T : Tx K mg) : Binds K T.fd_fewest_words ["evening", "order"] [] := FunD.bindsN T.F_fewest_words fun _ _ _ _ _ _ us hl => match us, hl with | [_, _], _ => rfl
theorem Tx.b_L_box (T : Tx K mg) : Binds K T.fd_L_box ["_law_script", "_law_k"] [] := FunD.bindsN T.F_L_box fun _ _ _ _ _ _ us hl => match us, hl with | [_, _], _ => rfl
theorem Tx.b_L_take (T : Tx K mg) : Binds K T.fd_L_take ["_law_box_here", "_law_size"] [] := FunD.bindsN T.F_L_take fun _ _ _ _ _ _ us hl => match us, hl with | [_, _], _ => rfl
theorem Tx.b_L_folded (T : Tx K mg) : Binds K T.fd_L_folded ["_law_script", "_law_size"] [] := FunD.bindsN T.F_L_folded fun _ _ _ _ _ _ us hl => match us, hl with | [_, _], _ => rfl
theorem Tx.b_L_of (T : Tx K mg) : Binds K T.fd_L_of ["_law_box_here", "_law_some"] [] := FunD.bindsN T.F_L_of fun _ _ _ _ _ _ us hl => match us, hl with | [_, _], _ => rfl
theorem Tx.b_L_names (T : Tx K mg) : Binds K T.fd_L_names ["_law_box_here", "_law_many"] [] := FunD.bindsN T.F_L_names fun _ _ _ _ _ _ us hl => match us, hl with | [_, _], _ => rfl
theorem Tx.b_L_strewn (T : Tx K mg) : Binds K T.fd_L_strewn ["_law_box_here", "_law_some"] [] := FunD.bindsN T.F_L_strewn fun _ _ _ _ _ _ us hl => match us, hl with | [_, _], _ => rfl
theorem Tx.b_L_night (T : Tx K mg) : Binds K T.fd_L_night ["_law_box_here", "_law_low", "_law_high"] [] := FunD.bindsN T.F_L_night fun _ _ _ _ _ _ us hl => match us, hl with | [_, _, _], _ => rfl
theorem Tx.b_L_seeks (T : Tx K mg) : Binds K T.fd_L_seeks ["_law_night_here", "_law_name"] [] := FunD.bindsN T.F_L_seeks fun _ _ _ _ _ _ us hl => match us, hl with | [_, _], _ => rfl
theorem Tx.b_L_went (T : Tx K mg) : Binds K T.fd_L_went ["_law_night_here", "_law_row"] [] := FunD.bindsN T.F_L_went fun _ _ _ _ _ _ us hl => match us, hl with | [_, _], _ => rfl
theorem Tx.b_L_said (T : Tx K mg) : Binds K T.fd_L_said ["_law_box_here", "_law_row", "_law_many"] [] := FunD.bindsN T.F_L_said fun _ _ _ _ _ _ us hl => match us, hl with | [_, _, _], _ => rfl
theorem Tx.b_L_has_all (T : Tx K mg) : Binds K T.fd_L_has_all ["_law_row", "_law_pairs"] [] := FunD.bindsN T.F_L_has_all fun _ _ _ _ _ _ us hl => match us, hl with | [_, _], _ => rfl
theorem Tx.b_L_ring (T : Tx K mg) : Binds K T.fd_L_ring ["_law_night_here", "_law_way", "_law_said_here"] [] := FunD.bindsN T.F_L_ring fun _ _ _ _ _ _ us hl => match us, hl with | [_, _, _], _ => rfl
theorem Tx.b_L_is_ring (T : Tx K mg) : Binds K T.fd_L_is_ring ["_law_thing", "_law_pairs"] [] := FunD.bindsN T.F_L_is_ring fun _ _ _ _ _ _ us hl => match us, hl with | [_, _], _ => rfl
theorem Tx.b_L_ring_right (T : Tx K mg) : Binds K T.fd_L_ring_right ["_law_box_here", "_law_night_here", "_law_way", "_law_said_here", "_law_sure"] [] := FunD.bindsN T.F_L_ring_right fun _ _ _ _ _ _ us hl => match us, hl with | [_, _, _, _, _], _ => rfl
theorem Tx.b_L_fewest_right (T : Tx K mg) : Binds K T.fd_L_fewest_right ["_law_night_here", "_law_row"] [] := FunD.bindsN T.F_L_fewest_right fun _ _ _ _ _ _ us hl => match us, hl with | [_, _], _ => rfl
theorem Tx.b_L_step (T : Tx K mg) : Binds K T.fd_L_step ["_law_night_here", "_law_way", "_law_row", "_law_said_here", "_law_ahead"] [] := FunD.bindsN T.F_L_step fun _ _ _ _ _ _ us hl => match us, hl with | [_, _, _, _, _], _ => rfl
theorem Tx.b_L_right (T : Tx K mg) : Binds K T.fd_L_right ["_law_box_here"] [] := FunD.bindsN T.F_L_right fun _ _ _ _ _ _ us hl => match us, hl with | [_], _ => rfl
theorem Tx.b_law (T : Tx K mg) : Binds K T.fd_law ["_law_script"] [] := FunD.bindsN T.F_law fun _ _ _ _ _ _ us hl => match us, hl with | [_], _ => rfl
theorem Tx.b_Ring (T : Tx K mg) : Binds K T.fd_Ring ["self", "what"] [] := FunD.bindsN T.F_Ring fun _ _ _ _ _ _ us hl => match us, hl with | [_, _], _ => rfl
end
end WC
namespace WC
open PySem PySem.Spec PyProof.Rows L2
def d_is_seeker : He.DefD := ⟨("is_seeker", none), "is_seeker", "is_seeker", defArgs s_is_seeker, defBody s_is_seeker, defScope s_is_seeker, [], []⟩
def d_seekers : He.DefD := ⟨("seekers", none), "seekers", "seekers", defArgs s_seekers, defBody s_seekers, defScope s_seekers, [], []⟩
def d_hook_of : He.DefD := ⟨("hook_of", none), "hook_of", "hook_of", defArgs s_hook_of, defBody s_hook_of, defScope s_hook_of, [], []⟩
def d_look_goers : He.DefD := ⟨("look_goers", none), "look_goers", "look_goers", defArgs s_look_goers, defBody s_look_goers, defScope s_look_goers, [], []⟩
def d_goes : He.DefD := ⟨("goes", none), "goes", "goes", defArgs s_goes, defBody s_goes, defScope s_goes, [], []⟩
def d_way_of : He.DefD := ⟨("way_of", none), "way_of", "way_of", defArgs s_way_of, defBody s_way_of, defScope s_way_of, [], []⟩
def d_is_ahead : He.DefD := ⟨("is_ahead", none), "is_ahead", "is_ahead", defArgs s_is_ahead, defBody s_is_ahead, defScope s_is_ahead, [], []⟩
def d_why_not : He.DefD := ⟨("why_not", none), "why_not", "why_not", defArgs s_why_not, defBody s_why_not, defScope s_why_not, [], []⟩
def d_can_be : He.DefD := ⟨("can_be", none), "can_be", "can_be", defArgs s_can_be, defBody s_can_be, defScope s_can_be, [], []⟩
def d_look_way : He.DefD := ⟨("look_way", none), "look_way", "look_way", defArgs s_look_way, defBody s_look_way, defScope s_look_way, [], []⟩
def d_firsts : He.DefD := ⟨("firsts", none), "firsts", "firsts", defArgs s_firsts, defBody s_firsts, defScope s_firsts, [], []⟩
def d_needs : He.DefD := ⟨("needs", none), "needs", "needs", defArgs s_needs, defBody s_needs, defScope s_needs, [], []⟩
def d_has_words : He.DefD := ⟨("has_words", none), "has_words", "has_words", defArgs s_has_words, defBody s_has_words, defScope s_has_words, [], []⟩
def d_pairs_of : He.DefD := ⟨("pairs_of", none), "pairs_of", "pairs_of", defArgs s_pairs_of, defBody s_pairs_of, defScope s_pairs_of, [], []⟩
def d_ring_of : He.DefD := ⟨("ring_of", none), "ring_of", "ring_of", defArgs s_ring_of, defBody s_ring_of, defScope s_ring_of, [], []⟩
def d_order_by : He.DefD := ⟨("order_by", none), "order_by", "order_by", defArgs s_order_by, defBody s_order_by, defScope s_order_by, [], []⟩
def d_sure_pairs : He.DefD := ⟨("sure_pairs", none), "sure_pairs", "sure_pairs", defArgs s_sure_pairs, defBody s_sure_pairs, defScope s_sure_pairs, [], []⟩
def d_shows_ring : He.DefD := ⟨("shows_ring", none), "shows_ring", "shows_ring", defArgs s_shows_ring, defBody s_shows_ring, defScope s_shows_ring, [], []⟩
def d_fewest_words : He.DefD := ⟨("fewest_words", none), "fewest_words", "fewest_words", defArgs s_fewest_words, defBody s_fewest_words, defScope s_fewest_words, [], []⟩
def d_L_box : He.DefD := ⟨("_law_box", none), "_law_box", "_law_box", defArgs s_L_box, defBody s_L_box, defScope s_L_box, [], []⟩
def d_L_take : He.DefD := ⟨("_law_take", none), "_law_take", "_law_take", defArgs s_L_take, defBody s_L_take, defScope s_L_take, [], []⟩
def d_L_folded : He.DefD := ⟨("_law_folded", none), "_law_folded", "_law_folded", defArgs s_L_folded, defBody s_L_folded, defScope s_L_folded, [], []⟩
def d_L_of : He.DefD := ⟨("_law_of", none), "_law_of", "_law_of", defArgs s_L_of, defBody s_L_of, defScope s_L_of, [], []⟩
def d_L_names : He.DefD := ⟨("_law_names", none), "_law_names", "_law_names", defArgs s_L_names, defBody s_L_names, defScope s_L_names, [], []⟩
def d_L_strewn : He.DefD := ⟨("_law_strewn", none), "_law_strewn", "_law_strewn", defArgs s_L_strewn, defBody s_L_strewn, defScope s_L_strewn, [], []⟩
def d_L_night : He.DefD := ⟨("_law_night", none), "_law_night", "_law_night", defArgs s_L_night, defBody s_L_night, defScope s_L_night, [], []⟩
def d_L_seeks : He.DefD := ⟨("_law_seeks", none), "_law_seeks", "_law_seeks", defArgs s_L_seeks, defBody s_L_seeks, defScope s_L_seeks, [], []⟩
def d_L_went : He.DefD := ⟨("_law_went", none), "_law_went", "_law_went", defArgs s_L_went, defBody s_L_went, defScope s_L_went, [], []⟩
def d_L_said : He.DefD := ⟨("_law_said", none), "_law_said", "_law_said", defArgs s_L_said, defBody s_L_said, defScope s_L_said, [], []⟩
def d_L_has_all : He.DefD := ⟨("_law_has_all", none), "_law_has_all", "_law_has_all", defArgs s_L_has_all, defBody s_L_has_all, defScope s_L_has_all, [], []⟩
def d_L_ring : He.DefD := ⟨("_law_ring", none), "_law_ring", "_law_ring", defArgs s_L_ring, defBody s_L_ring, defScope s_L_ring, [], []⟩
def d_L_is_ring : He.DefD := ⟨("_law_is_ring", none), "_law_is_ring", "_law_is_ring", defArgs s_L_is_ring, defBody s_L_is_ring, defScope s_L_is_ring, [], []⟩
def d_L_ring_right : He.DefD := ⟨("_law_ring_right", none), "_law_ring_right", "_law_ring_right", defArgs s_L_ring_right, defBody s_L_ring_right, defScope s_L_ring_right, [], []⟩
def d_L_fewest_right : He.DefD := ⟨("_law_fewest_right", none), "_law_fewest_right", "_law_fewest_right", defArgs s_L_fewest_right, defBody s_L_fewest_right, defScope s_L_fewest_right, [], []⟩
def d_L_step : He.DefD := ⟨("_law_step", none), "_law_step", "_law_step", defArgs s_L_step, defBody s_L_step, defScope s_L_step, [], []⟩
def d_L_right : He.DefD := ⟨("_law_right", none), "_law_right", "_law_right", defArgs s_L_right, defBody s_L_right, defScope s_L_right, [], []⟩
def d_law : He.DefD := ⟨("law", none), "law", "law", defArgs s_law, defBody s_law, defScope s_law, [], []⟩
def d_Ring_init : He.DefD := ⟨("Ring", some "__init__"), "__init__", "Ring.__init__", defArgs s_Ring_init, defBody s_Ring_init, defScope s_Ring_init, [], []⟩
def hfn : List He.DefD := [d_is_seeker, d_seekers, d_hook_of, d_look_goers, d_goes, d_way_of, d_is_ahead, d_why_not, d_can_be, d_look_way, d_firsts, d_needs, d_has_words, d_pairs_of, d_ring_of, d_order_by, d_sure_pairs, d_shows_ring, d_fewest_words, d_L_box, d_L_take, d_L_folded, d_L_of, d_L_names, d_L_strewn, d_L_night, d_L_seeks, d_L_went, d_L_said, d_L_has_all, d_L_ring, d_L_is_ring, d_L_ring_right, d_L_fewest_right, d_L_step, d_L_right, d_law, d_Ring_init]
def hfa : List He.Fa := [.glo "is_seeker", .glo "seekers", .glo "hook_of", .glo "look_goers", .glo "goes", .glo "way_of", .glo "is_ahead", .glo "why_not", .glo "can_be", .glo "look_way", .glo "firsts", .glo "needs", .glo "has_words", .glo "pairs_of", .glo "ring_of", .glo "order_by", .glo "sure_pairs", .glo "shows_ring", .glo "fewest_words", .glo "_law_box", .glo "_law_take", .glo "_law_folded", .glo "_law_of", .glo "_law_names", .glo "_law_strewn", .glo "_law_night", .glo "_law_seeks", .glo "_law_went", .glo "_law_said", .glo "_law_has_all", .glo "_law_ring", .glo "_law_is_ring", .glo "_law_ring_right", .glo "_law_fewest_right", .glo "_law_step", .glo "_law_right", .glo "law", .glo "Ring", .free "ValueError", .free "abs", .free "all", .free "any", .free "divmod", .free "enumerate", .free "int", .free "isinstance", .free "len", .free "list", .free "max", .free "min", .free "range", .free "repr", .free "reversed", .free "sorted", .free "str", .free "tuple", .free "zip", .exm "Ring" "Ring" true]
/-- the class Ring as an object of the written part, by one Bool -/
def excCB (K : PySem.W.Frag) (C : Addr) : Bool := match K.lookup C with
  | some ⟨.type c, _, .cls ⟨_, _, mr, _, _, hd, _, _, _, _, hdel⟩, sl⟩ => decide (c = "type") && (hd && (!hdel && ((match mr with
    | .ref D :: bm => decide (D = C) && PySem.HandSPX.refsVE bm
    | _ => false) && (match sl.toList with
    | [_, _, _, _, some (.builtin n), _] => decide (n = "ValueError.__new__")
    | _ => false))))
  | _ => false
theorem excCB_ok {K : PySem.W.Frag} {C : Addr} (h : excCB K C = true) : ∃ nm q N bs bm sn sub ab col dd k0 k1 k2 k3 k5, K.lookup C = some (excClassObj nm q C N bs bm true sn sub ab col dd k0 k1 k2 k3 k5 "ValueError.__new__") ∧ PySem.HandSPX.refsVE bm = true := by
  unfold excCB at h
  cases e : K.lookup C with
  | none => rw [e] at h; cases h
  | some o =>
    obtain ⟨oc, od, dt, sl⟩ := o
    rw [e] at h
    cases oc with
    | type c =>
      cases dt with
      | cls cd =>
        obtain ⟨c1, c2, mr, c4, c5, hd, c7, c8, c9, c10, hdel⟩ := cd
        simp only [Bool.and_eq_true, decide_eq_true_eq] at h
        obtain ⟨h1, h2, h3, h4, h5⟩ := h
        cases hd with
        | false => cases h2
        | true =>
          cases hdel with
          | true => cases h3
          | false =>
            cases mr with
            | nil => cases h4
            | cons m bm =>
              cases m with
              | ref D =>
                simp only [Bool.and_eq_true, decide_eq_true_eq] at h4
                obtain ⟨h6, h7⟩ := h4
                subst h6
                obtain ⟨l⟩ := sl
                match l, h5 with
                | [k0, k1, k2, k3, some (.builtin n), k5], h5 =>
                  have h8 : n = "ValueError.__new__" := of_decide_eq_true h5
                  subst h8 h1
                  exact ⟨c1, c5, c4, c2, bm, c7, c8, c9, c10, od, k0, k1, k2, k3, k5, rfl, h7⟩
              | _ => cases h4
      | _ => cases h
    | _ => cases dt <;> cases h
def xmB (K : PySem.W.Frag) : Bool :=
  excCB K (He.ga K "Ring") && (decide (PySem.W.findIn K (.ref (He.ga K "Ring")) "__setattr__" = some (some (.builtin "object.__setattr__"))) && (xfB K (He.ga K "Ring") && (decide (PySem.W.typeIn K (.ref (He.ga K "Ring")) = some (.type "type")) &&
    (PySem.W.keepIn K (.ref (He.ga K "Ring")) && (decide (PySem.W.findIn K (.ref (He.ga K "Ring")) "what" = some none) && (decide (PySem.W.findIn K (.ref (He.ga K "Ring")) "__init__" = some (some (.ref (He.ma K (He.ga K "Ring") "__init__")))) &&
    (decide (PySem.W.typeIn K (.ref (He.ma K (He.ga K "Ring") "__init__")) = some (.type "function")) && (match PySem.W.findCls K (.type "ValueError") (.type "type") "__init__" with
      | some (.val (.builtin n)) => decide (n = "ValueError.__init__")
      | _ => false))))))))
/-! ### the head -/
abbrev R : PySem.W.OpenRow := PySem.W.OpenLaw.row PySem.Challenge.rw_wrongcoats_k72_whole_words_narrowed
abbrev hk : PySem.W.Hook := He.hookX 4 hfa hfn [] [] xmB
def ob (s : PySem.W.SharedT) : He.AlX := He.obsX 4 hfa hfn [] [] xmB (HandSHeadRun.getT s)
theorem ob_eq (s : PySem.W.SharedT) : ob s = hk.obs s.abs := He.obsX_eq (HandSHeadRun.getT_eq s)
def loose1 : List PySem.Str := ["NoGuest", "NoCoat", "Unfit", "Ring", "is_seeker", "seekers", "hook_of", "look_goers", "goes", "way_of", "is_ahead", "why_not", "can_be", "look_way", "firsts", "needs", "has_words", "pairs_of", "ring_of", "order_by", "sure_pairs", "shows_ring"]
def loose2 : List PySem.Str := ["fewest_words", "_law_box", "_law_take", "_law_folded", "_law_same", "_law_of", "_law_names", "_law_strewn", "_law_night", "_law_seeks", "_law_went", "_law_said", "_law_has_all", "_law_ring", "_law_is_ring", "_law_ring_right", "_law_fewest_right", "_law_step", "_law_right"]
def loose : List PySem.Str := loose1 ++ loose2
theorem run (w : World) : HandSHeadRun.RunEq R (PySem.W.view R.prog [48]) hk ob 3000 loose w := by
  intro os
  kernel_rfl
abbrev Q0 : Program := PySem.W.view R.prog [48]
abbrev D0 : DefRec := HandSHeadRun.topDef R.prog 48
open PySem.W in
theorem h_e : opening R.prog = plainProg R.prog.main.scope.names := by kernel_rfl
open PySem.W in
theorem h_f (s : Shared) : fenceModules? R.prog s = some s := by kernel_rfl
open PySem.W in
theorem h_d : defOf Q0 R.name = some (D0, ([] : List (PySem.Str × PySem.Expr))) := by kernel_rfl
open PySem.W in
theorem h_p : R.prog.theDef R.name = some (D0.params, D0.body, D0.scope) := by kernel_rfl
open PySem.W in
theorem h_k : kwWritten? D0.params.kwonlyargs D0.params.kw_defaults = some ([] : List (PySem.Str × PySem.Expr)) := by kernel_rfl
open PySem.W in
theorem h_w : (!R.writes || R.records.isEmpty) = true := by rfl
open PySem.W in
theorem h_s : R.wellSaid = true := by decide +kernel
open PySem.W in
theorem h_o : (chainsOk Q0 && opensWell R.prog && (frees R.toRowW && R.within.isEmpty)) = true := by decide +kernel
theorem h_n : D0.name = ("law" : PySem.Str) := by kernel_rfl
theorem h_z : D0.params.defaults = ([] : List PySem.Expr) := by kernel_rfl
open PySem.W in
theorem h_b : R.prog.bare := ⟨rfl, rfl, rfl, rfl, rfl, by decide +kernel⟩
end WC
namespace WC
open PySem PySem.W PySem.Calls PyProof.Rows
theorem h_pr : R.toRowW.promised := by w_witness2
theorem head0 (call : WalkO Q0 loose (XL Q0 []) hk.says R.toRowW D0 [] fun f vs => PySem.call f vs) : PySem.Challenge.rw_wrongcoats_k72_whole_words_narrowed.Holds := by
  w_on; o_law
  exact HandSHeadRun.head_any ob_eq h_e h_f run h_d h_p h_k h_w h_s h_o h_b h_pr call
end WC
namespace L2
open PySem PySem.Spec PyProof.Rows

/-! ### heaps -/
section
variable {K : PySem.W.Frag} {H H' H1 H2 : Hp} {v x : V} {a b p : Addr}
theorem same_new {p : Addr} {o : HO} (h : H p = none) : Same H (upd H p o) := fun b x e => by
  rw [upd_ne (ne_of_none e h)]
  exact e
theorem Same.mut {p : Addr} {o : HO} (s : Same H H') (h : H p = none) : Same H (upd H' p o) := fun b u e => by
  rw [upd_ne (ne_of_none e h)]
  exact s b u e
theorem Same.new {p : Addr} {o : HO} (s : Same H H') (h : H' p = none) : Same H (upd H' p o) := s.trans (same_new h)
theorem Same.sqt {xs : List V} (s : Same H H') (h : SqT K H a xs) : SqT K H' a xs := by
  rcases h with (h | ⟨o, h⟩) | h
  · exact .inl (.inl (s _ _ h))
  · exact .inl (.inr ⟨o, s _ _ h⟩)
  · exact .inr h
/-- all but what stands at M is as it was -/
def But (M : Addr) (H H' : Hp) : Prop := ∀ b o, b ≠ M → H b = some o → H' b = some o
theorem But.refl (M : Addr) (H : Hp) : But M H H := fun _ _ _ h => h
theorem But.trans {M : Addr} (s : But M H H1) (t : But M H1 H2) : But M H H2 := fun b o n h => t b o n (s b o n h)
theorem Same.but (M : Addr) (s : Same H H') : But M H H' := fun b o _ h => s b o h
theorem But.upd {M : Addr} {o : HO} (s : But M H H') : But M H (upd H' M o) := fun b u n h => by
  rw [upd_ne n]
  exact s b u n h
theorem But.mut {M : Addr} {o : HO} (s : But M H H') (h : H p = none) : But M H (L2.upd H' p o) := fun b u n e => by
  rw [upd_ne (ne_of_none e h)]
  exact s b u n e
theorem But.new {M : Addr} {o : HO} (s : But M H H') (h : H' p = none) : But M H (L2.upd H' p o) := s.trans ((same_new h).but M)
theorem But.same {M : Addr} (s : But M H H') (h : H M = none) : Same H H' := fun b o e => s b o (ne_of_none e h) e
theorem But.free {M : Addr} (s : But M H H') (n : p ≠ M) (h : H' p = none) : H p = none := by
  cases q : H p with
  | none => rfl
  | some o =>
    rw [s p o n q] at h
    cases h

/-! ### data and heaps -/
mutual
theorem Dp.same (s : Same H H') : ∀ (d : PyData) {v : V}, Dp K H v d → Dp K H' v d
  | .none, _, h => by cases h; exact .non
  | .bool b, _, h => by cases h; exact .bl b
  | .int i, _, h => by cases h; exact .int i
  | .str x, _, h => by cases h; exact .str x
  | .list ds, _, h => by
    cases h with
    | lst h r => exact .lst (s.seq h) (DpAll.same s ds r)
  | .tuple ds, _, h => by
    cases h with
    | tup h r => exact .tup (s.sqt h) (DpAll.same s ds r)
  | .dict _, _, h => by cases h
theorem DpAll.same (s : Same H H') : ∀ (ds : List PyData) {vs : List V}, DpAll K H vs ds → DpAll K H' vs ds
  | [], _, h => by cases h; exact .nil
  | d :: ds, _, h => by
    cases h with
    | cons h r => exact .cons (Dp.same s d h) (DpAll.same s ds r)
end
mutual
/-- no int in it -/
def intless : PyData → Bool
  | .int _ => false
  | .list ds => intlessAll ds
  | .tuple ds => intlessAll ds
  | _ => true
def intlessAll : List PyData → Bool
  | [] => true
  | d :: ds => intless d && intlessAll ds
end
/-- the box: a list of three whole numbers -/
def Box (H : Hp) (b : Addr) : Prop := ∃ i j k : Int, H b = some (.lst [.int i, .int j, .int k])
theorem Box.sql {xs : List V} {ds : List PyData} (B : Box H b) (s : But b H H') (h : SqL K H a xs) (r : DpAll K H xs ds) (n : intlessAll ds = true) : SqL K H' a xs := by
  obtain ⟨i, j, k, hb⟩ := B
  rcases h with (h | ⟨o, h⟩) | h
  · refine .inl (.inl (s a _ (fun e => ?_) h))
    subst e
    rw [hb] at h
    cases h
    cases ds with
    | nil => cases r
    | cons d ds =>
      cases r with
      | cons h1 _ =>
        cases h1
        simp [intlessAll, intless] at n
  · refine .inl (.inr ⟨o, s a _ (fun e => ?_) h⟩)
    subst e
    rw [hb] at h
    cases h
  · exact .inr h
theorem Box.sqt {xs : List V} (B : Box H b) (s : But b H H') (h : SqT K H a xs) : SqT K H' a xs := by
  obtain ⟨i, j, k, hb⟩ := B
  rcases h with (h | ⟨o, h⟩) | h
  · refine .inl (.inl (s a _ (fun e => ?_) h))
    subst e
    rw [hb] at h
    cases h
  · refine .inl (.inr ⟨o, s a _ (fun e => ?_) h⟩)
    subst e
    rw [hb] at h
    cases h
  · exact .inr h
mutual
theorem Dp.but (B : Box H b) (s : But b H H') : ∀ (d : PyData) {v : V}, intless d = true → Dp K H v d → Dp K H' v d
  | .none, _, _, h => by cases h; exact .non
  | .bool b, _, _, h => by cases h; exact .bl b
  | .int i, _, _, h => by cases h; exact .int i
  | .str x, _, _, h => by cases h; exact .str x
  | .list ds, _, n, h => by
    cases h with
    | lst h r => exact .lst (B.sql s h r (by simpa [intless] using n)) (DpAll.but B s ds (by simpa [intless] using n) r)
  | .tuple ds, _, n, h => by
    cases h with
    | tup h r => exact .tup (B.sqt s h) (DpAll.but B s ds (by simpa [intless] using n) r)
  | .dict _, _, _, h => by cases h
theorem DpAll.but (B : Box H b) (s : But b H H') : ∀ (ds : List PyData) {vs : List V}, intlessAll ds = true → DpAll K H vs ds → DpAll K H' vs ds
  | [], _, _, h => by cases h; exact .nil
  | d :: ds, _, n, h => by
    have n' : intless d = true ∧ intlessAll ds = true := by simpa [intlessAll] using n
    cases h with
    | cons h r => exact .cons (Dp.but B s d n'.1 h) (DpAll.but B s ds n'.2 r)
end
/-- lists of data, item by item -/
theorem DpAll.length : ∀ {ds : List PyData} {vs : List V}, DpAll K H vs ds → vs.length = ds.length
  | [], _, h => by cases h; rfl
  | _ :: _, _, h => by
    cases h with
    | cons _ r => exact congrArg Nat.succ (DpAll.length r)
theorem DpAll.get : ∀ {ds : List PyData} {vs : List V} {i : Nat} {v : V}, DpAll K H vs ds → vs[i]? = some v → ∃ d, ds[i]? = some d ∧ Dp K H v d
  | [], _, _, _, h, e => by cases h; simp at e
  | d :: ds, _, 0, v, h, e => by
    cases h with
    | cons h1 _ => simp at e; subst e; exact ⟨d, rfl, h1⟩
  | d :: ds, _, i + 1, v, h, e => by
    cases h with
    | cons _ r => simp at e; obtain ⟨d', e', h'⟩ := DpAll.get r e; exact ⟨d', by simpa using e', h'⟩
theorem DpAll.at {ds : List PyData} {vs : List V} {i : Nat} {d : PyData} (h : DpAll K H vs ds) (e : ds[i]? = some d) : ∃ v, vs[i]? = some v ∧ Dp K H v d := by
  have hi : i < vs.length := by rw [h.length]; exact (List.getElem?_eq_some_iff.mp e).1
  obtain ⟨d', e', h'⟩ := h.get (List.getElem?_eq_getElem hi)
  rw [e] at e'
  cases e'
  exact ⟨_, List.getElem?_eq_getElem hi, h'⟩
theorem DpAll.append : ∀ {ds es : List PyData} {vs us : List V}, DpAll K H vs ds → DpAll K H us es → DpAll K H (vs ++ us) (ds ++ es)
  | [], _, _, _, h, r => by cases h; exact r
  | _ :: _, _, _, _, h, r => by
    cases h with
    | cons h1 h2 => exact .cons h1 (DpAll.append h2 r)
theorem DpAll.take : ∀ (n : Nat) {ds : List PyData} {vs : List V}, DpAll K H vs ds → DpAll K H (vs.take n) (ds.take n)
  | 0, _, _, _ => .nil
  | _ + 1, [], _, h => by cases h; exact .nil
  | n + 1, _ :: _, _, h => by
    cases h with
    | cons h1 h2 => exact .cons h1 (DpAll.take n h2)
theorem DpAll.drop : ∀ (n : Nat) {ds : List PyData} {vs : List V}, DpAll K H vs ds → DpAll K H (vs.drop n) (ds.drop n)
  | 0, _, _, h => h
  | _ + 1, [], _, h => by cases h; exact .nil
  | n + 1, _ :: _, _, h => by
    cases h with
    | cons h1 h2 => exact DpAll.drop n h2
theorem DpAll.strs : ∀ (xs : List Str), DpAll K H (xs.map V.str) (xs.map PyData.str)
  | [] => .nil
  | x :: xs => .cons (.str x) (DpAll.strs xs)
theorem DpAll.of_strs : ∀ {xs : List Str} {vs : List V}, DpAll K H vs (xs.map PyData.str) → vs = xs.map V.str
  | [], _, h => by cases h; rfl
  | x :: xs, _, h => by
    cases h with
    | cons h1 h2 =>
      cases h1
      rw [DpAll.of_strs h2]
      rfl
end
end L2

namespace WC
open PySem PySem.Spec PyProof.Rows L2
/-! ### data: texts, pairs of texts, lists and tuples of these, an evening -/
abbrev PP : Type := Str × Str
def dT (xs : List Str) : PyData := .tuple (xs.map PyData.str)
def dL (xs : List Str) : PyData := .list (xs.map PyData.str)
def dP (p : PP) : PyData := .tuple [.str p.1, .str p.2]
def dLP (ps : List PP) : PyData := .list (ps.map dP)
def dTP (ps : List PP) : PyData := .tuple (ps.map dP)
def dLT (ts : List (List Str)) : PyData := .list (ts.map dT)
structure Ev where
  rack : List Str
  guests : List Str
  lost : List Str
def dE (e : Ev) : PyData := .tuple [dT e.rack, dT e.guests, dT e.lost]
section
variable {K : PySem.W.Frag} {H H' H1 H2 : Hp} {v x : V} {a b p : Addr}
theorem dT_at {xs : List Str} (h : Dp K H v (dT xs)) : ∃ a, v = .ref a ∧ SqT K H a (xs.map V.str) := by
  cases h with
  | tup h r =>
    rw [DpAll.of_strs r] at h
    exact ⟨_, rfl, h⟩
theorem dL_at {xs : List Str} (h : Dp K H v (dL xs)) : ∃ a, v = .ref a ∧ SqL K H a (xs.map V.str) := by
  cases h with
  | lst h r =>
    rw [DpAll.of_strs r] at h
    exact ⟨_, rfl, h⟩
theorem dP_at {q : PP} (h : Dp K H v (dP q)) : ∃ a, v = .ref a ∧ SqT K H a [.str q.1, .str q.2] := by
  have h2 : Dp K H v (dT [q.1, q.2]) := h
  exact dT_at h2
theorem dLP_at {ps : List PP} (h : Dp K H v (dLP ps)) : ∃ a vs, v = .ref a ∧ SqL K H a vs ∧ DpAll K H vs (ps.map dP) := by
  cases h with
  | lst h r => exact ⟨_, _, rfl, h, r⟩
theorem dTP_at {ps : List PP} (h : Dp K H v (dTP ps)) : ∃ a vs, v = .ref a ∧ SqT K H a vs ∧ DpAll K H vs (ps.map dP) := by
  cases h with
  | tup h r => exact ⟨_, _, rfl, h, r⟩
theorem dE_at {e : Ev} (h : Dp K H v (dE e)) : ∃ p a b c, v = .ref p ∧ SqT K H p [.ref a, .ref b, .ref c] ∧ SqT K H a (e.rack.map V.str) ∧ SqT K H b (e.guests.map V.str) ∧ SqT K H c (e.lost.map V.str) := by
  cases h with
  | tup h r =>
    cases r with
    | cons h1 r =>
      cases r with
      | cons h2 r =>
        cases r with
        | cons h3 r =>
          cases r
          obtain ⟨a, rfl, q1⟩ := dT_at h1
          obtain ⟨b, rfl, q2⟩ := dT_at h2
          obtain ⟨c, rfl, q3⟩ := dT_at h3
          exact ⟨_, a, b, c, rfl, h, q1, q2, q3⟩
theorem dT_of {xs : List Str} (h : SqT K H a (xs.map V.str)) : Dp K H (.ref a) (dT xs) := .tup h (DpAll.strs xs)
theorem dL_of {xs : List Str} (h : SqL K H a (xs.map V.str)) : Dp K H (.ref a) (dL xs) := .lst h (DpAll.strs xs)
theorem dP_of {q : PP} (h : SqT K H a [.str q.1, .str q.2]) : Dp K H (.ref a) (dP q) := .tup h (DpAll.strs [q.1, q.2])
/-! flat things -/
theorem flat_strs (xs : List Str) : (xs.map V.str).all flatV = true := by
  rw [List.all_map, List.all_eq_true]
  intro x _
  rfl
theorem inV_strs (g : Str) (xs : List Str) : inV (.str g) (xs.map V.str) = decide (g ∈ xs) := by
  unfold inV
  rw [List.any_map]
  induction xs with
  | nil => rfl
  | cons y ys ih =>
    rw [List.any_cons, ih]
    show (decide (y = g) || decide (g ∈ ys)) = _
    by_cases e : y = g
    · subst e
      simp
    · have e2 : ¬ g = y := fun q => e q.symm
      simp [e, e2]
end
end WC
/-! zip of two tuples, walked by a target of one name: the pair that was handed out may still be held -/
namespace WC
open PySem PySem.Spec PyProof.Rows L2
/-- the zip at z, whatever pair it has handed out -/
abbrev zObj (v0 : Value) (f : Bool) (TI TO : Addr) : Obj := { cls := .type "zip", dict := none, data := .fields #[v0, .bool f, .bool false, .ref TI, .ref TO], slots := #[] }
def ZAny (h : Heap) (z TI TO : Addr) : Prop := ∃ (v0 : Value) (f : Bool), (v0 = .none ∨ ∃ T : Nat, v0 = rawInt T) ∧ h.get? z = some (zObj v0 f TI TO)
section
variable {prog : Program} {w : World} {A : Around} {E : Value → Shared → Prop} {s : Shared}
theorem owned_any {z TI TO : Addr} {Q : Bool → Shared → Prop} (hz : ZAny s.heap z TI TO) (yes : Q true s)
    (no : ∀ h', ZAny h' z TI TO → Heap.SameBut z s.heap h' → Q false { s with heap := h' }) : wpAny (model prog w) A (Builtin.SmallTypes.ownedTupleIsFree (.ref z)) Q E s := by
  obtain ⟨v0, f, hv, e⟩ := hz
  unfold Builtin.SmallTypes.ownedTupleIsFree
  refine wpAny_bind (wpAny_field e rfl (x := v0) rfl ?_)
  rcases hv with rfl | ⟨T, rfl⟩
  · exact wpAny_pure yes
  · show wpAny _ _ (loadIfAlive ((T : Int).toNat) >>= _) _ _ _
    rw [Int.toNat_natCast]
    refine wpAny_bind (fun _ _ _ => ?_)
    show _
    have key : wpAny (model prog w) A (do
        if (s.heap.get? T).isNone then return true
        if (← field (.ref z) 1) != .bool true then setField (.ref z) 1 (.bool true)
        return false) Q E s := by
      cases q : s.heap.get? T with
      | none => exact wpAny_pure yes
      | some o =>
        simp only [Option.isNone_some, Bool.false_eq_true, if_false]
        refine wpAny_bind (wpAny_field e rfl (x := .bool f) rfl ?_)
        cases f with
        | true => exact wpAny_pure (no s.heap ⟨_, true, .inr ⟨T, rfl⟩, e⟩ (Heap.SameBut.refl _ _))
        | false => exact wpAny_bind (wpAny_setField_rec e (by simp) fun h1 e1 s1 => wpAny_pure (no h1 ⟨_, true, .inr ⟨T, rfl⟩, e1⟩ s1))
    exact key
/-- one draw of a pair -/
theorem zip_draw {z TI TO i1 i2 l1 l2 : Addr} {n1 n2 : Nat} {us ws : Array Value} {u v : Value} {Q : Value → Shared → Prop} (D : ZipApart z TI TO i1 i2 l1 l2) (hz : ZAny s.heap z TI TO)
    (hTI : IsPair s.heap TI (.ref i1) (.ref i2)) (hTO : ∃ a b, IsPair s.heap TO a b) (a1 : s.heap.IsTupleIter i1 l1 n1) (a2 : s.heap.IsTupleIter i2 l2 n2) (t1 : s.heap.IsTuple l1 us) (t2 : s.heap.IsTuple l2 ws)
    (e1 : us[n1]? = some u) (e2 : ws[n2]? = some v)
    (k : ∀ h', ZAny h' z TI TO → (∃ a b, IsPair h' TO a b) → h'.IsTupleIter i1 l1 (n1 + 1) → h'.IsTupleIter i2 l2 (n2 + 1) → IsPair h' s.heap.objs.size u v →
      (∀ c o, c ≠ z → c ≠ TO → c ≠ i1 → c ≠ i2 → s.heap.get? c = some o → h'.get? c = some o) → Q (.ref s.heap.objs.size) { s with heap := h' }) :
    wpAny (model prog w) A (Builtin.«zip.__next__» ⟨[.ref z], []⟩) (fun fin s' => ∃ r, fin = .done (.ret r) ∧ Q r s') E s := by
  obtain ⟨v0, f, hv, ez⟩ := id hz
  show wpAny _ _ (field (.ref z) 2 >>= _) _ _ _
  refine wpAny_bind (wpAny_field ez rfl (x := .bool false) rfl ?_)
  show wpAny _ _ (field (.ref z) 3 >>= _) _ _ _
  refine wpAny_bind (wpAny_field ez rfl (x := .ref TI) rfl ?_)
  refine wpAny_bind (wpAny_seqItems hTI rfl ?_)
  show wpAny _ _ (Builtin.SmallTypes.ownedTupleIsFree (.ref z) >>= _) _ _ _
  refine wpAny_bind (owned_any hz ?_ fun g1 hz1 sb1 => ?_)
  · -- it is free: the zip's own pair is filled, a new one made of it
    simp only [if_true]
    refine wpAny_bind (wpAny_rule ?_)
    refine wpAny_bind (wpAny_field ez rfl (x := .ref TO) rfl ?_)
    refine wpAny_bind (wpAny_setField_rec ez (by simp) fun g1 q1 sb1 => ?_)
    have q1' : g1.get? z = some (zObj .ellipsis f TI TO) := q1
    obtain ⟨a, b, hTO⟩ := hTO
    refine wpAny_bind ?_
    simp only [List.zipIdx_cons, List.zipIdx_nil, List.forIn_cons, List.forIn_nil]
    refine wpAny_bind (wpAny_bind (wpAny_onRaise ?_))
    show wpAny _ _ (Builtin.SmallTypes.nextOf (.ref i1) >>= _) _ _ _
    refine wpAny_bind (RZ.nextOf_tuple_item (a1.extBut sb1.extBut D.i1z) (t1.extBut sb1.extBut D.l1z) e1 fun g2 b1 sb2 => wpAny_pure ?_)
    have p2 : IsPair g2 TO a b := sb2.extBut _ _ D.TOi1 (sb1.extBut _ _ D.TOz hTO)
    refine wpAny_bind (wpAny_seqItems p2 rfl (wpAny_bind (wpAny_updateSeq_pair p2 fun g3 p3 sb3 => ?_)))
    have p3' : IsPair g3 TO u b := p3
    refine wpAny_bind (wpAny_letGo (wpAny_pure ?_))
    refine wpAny_bind (wpAny_bind (wpAny_onRaise ?_))
    show wpAny _ _ (Builtin.SmallTypes.nextOf (.ref i2) >>= _) _ _ _
    have c2 : g3.IsTupleIter i2 l2 n2 := ((a2.extBut sb1.extBut D.i2z).extBut sb2.extBut D.i12.symm).extBut sb3.extBut D.TOi2.symm
    have d2 : g3.IsTuple l2 ws := ((t2.extBut sb1.extBut D.l2z).extBut sb2.extBut D.l2i1).extBut sb3.extBut D.l2TO
    refine wpAny_bind (RZ.nextOf_tuple_item c2 d2 e2 fun g4 b2 sb4 => wpAny_pure ?_)
    have p4 : IsPair g4 TO u b := sb4.extBut _ _ D.TOi2 p3'
    refine wpAny_bind (wpAny_seqItems p4 rfl (wpAny_bind (wpAny_updateSeq_pair p4 fun g5 p5 sb5 => ?_)))
    have p5' : IsPair g5 TO u v := p5
    refine wpAny_bind (wpAny_letGo (wpAny_pure (wpAny_pure ?_)))
    refine wpAny_bind (wpAny_seqItems p5' rfl (wpAny_bind (wpAny_newTuple ?_)))
    have sz : g5.objs.size = s.heap.objs.size := by rw [sb5.1, sb4.1, sb3.1, sb2.1, sb1.1]
    have z5 : g5.get? z = some (zObj .ellipsis f TI TO) := sb5.extBut _ _ D.TOz.symm (sb4.extBut _ _ D.i2z.symm (sb3.extBut _ _ D.TOz.symm (sb2.extBut _ _ D.i1z.symm q1')))
    have kp : ∀ c o, c ≠ z → c ≠ TO → c ≠ i1 → c ≠ i2 → s.heap.get? c = some o → g5.get? c = some o := fun c o n1 n2 n3 n4 e =>
      sb5.extBut _ _ n2 (sb4.extBut _ _ n4 (sb3.extBut _ _ n2 (sb2.extBut _ _ n3 (sb1.extBut _ _ n1 e))))
    have b15 : g5.IsTupleIter i1 l1 (n1 + 1) := ((b1.extBut sb3.extBut D.TOi1.symm).extBut sb4.extBut D.i12).extBut sb5.extBut D.TOi1.symm
    have b25 : g5.IsTupleIter i2 l2 (n2 + 1) := b2.extBut sb5.extBut D.TOi2.symm
    have zlt : z < g5.objs.size := Heap.lt_size z5
    show wpAny _ _ (Builtin.SmallTypes.ownedTupleHandOut (.ref z) (.ref g5.objs.size) >>= _) _ _ _
    refine wpAny_bind ?_
    unfold Builtin.SmallTypes.ownedTupleHandOut
    have z6 : (g5.push { cls := .type "tuple", data := .seq #[u, v] }).get? z = some (zObj .ellipsis f TI TO) := Heap.get?_push_of_some _ z5
    refine wpAny_bind (wpAny_setField_rec z6 (by simp) fun g7 q7 sb7 => ?_)
    have z7 : g7.get? z = some (zObj (rawInt g5.objs.size) f TI TO) := q7
    refine wpAny_setField_rec z7 (by simp) fun g8 q8 sb8 => ?_
    have z8 : g8.get? z = some (zObj (rawInt g5.objs.size) false TI TO) := q8
    have up : ∀ c o, c ≠ z → g5.get? c = some o → g8.get? c = some o := fun c o n e => sb8.extBut _ _ n (sb7.extBut _ _ n (Heap.get?_push_of_some _ e))
    have pT : IsPair g8 g5.objs.size u v := sb8.extBut _ _ (Nat.ne_of_gt zlt) (sb7.extBut _ _ (Nat.ne_of_gt zlt) (Heap.get?_push_size _ rfl))
    rw [sz] at pT
    refine wpAny_pure ⟨_, rfl, ?_⟩
    show Q (.ref g5.objs.size) _
    rw [sz]
    exact k g8 ⟨_, _, .inr ⟨g5.objs.size, rfl⟩, z8⟩ ⟨u, v, up _ _ D.TOz p5'⟩ (b15.at fun o e => up _ o D.i1z e) (b25.at fun o e => up _ o D.i2z e) pT fun c o n1 n2 n3 n4 e => up c o n1 (kp c o n1 n2 n3 n4 e)
  · -- it is held: a new pair
    simp only [Bool.false_eq_true, if_false]
    refine wpAny_bind ?_
    rw [← Array.forIn_toList]
    simp only [List.forIn_cons, List.forIn_nil]
    refine wpAny_bind (wpAny_bind (wpAny_holding ?_))
    show wpAny _ _ (Builtin.SmallTypes.nextOf (.ref i1) >>= _) _ _ _
    refine wpAny_bind (RZ.nextOf_tuple_item (s := { s with heap := g1 }) (a1.extBut sb1.extBut D.i1z) (t1.extBut sb1.extBut D.l1z) e1 fun g2 b1 sb2 => wpAny_pure ?_)
    refine wpAny_pure (wpAny_bind (wpAny_bind (wpAny_holding ?_)))
    show wpAny _ _ (Builtin.SmallTypes.nextOf (.ref i2) >>= _) _ _ _
    refine wpAny_bind (RZ.nextOf_tuple_item (s := { s with heap := g2 }) ((a2.extBut sb1.extBut D.i2z).extBut sb2.extBut D.i12.symm) ((t2.extBut sb1.extBut D.l2z).extBut sb2.extBut D.l2i1) e2 fun g3 b2 sb3 => wpAny_pure ?_)
    refine wpAny_pure (wpAny_pure ?_)
    show wpAny _ _ (newTuple [u, v] >>= _) _ _ _
    refine wpAny_bind (wpAny_newTuple ?_)
    have sz : g3.objs.size = s.heap.objs.size := by rw [sb3.1, sb2.1, sb1.1]
    obtain ⟨v1, f1, hv1, y1⟩ := hz1
    have y3 : g3.get? z = some (zObj v1 f1 TI TO) := sb3.extBut _ _ D.i2z.symm (sb2.extBut _ _ D.i1z.symm y1)
    have kp : ∀ c o, c ≠ z → c ≠ i1 → c ≠ i2 → s.heap.get? c = some o → g3.get? c = some o := fun c o n1 n2 n3 e => sb3.extBut _ _ n3 (sb2.extBut _ _ n2 (sb1.extBut _ _ n1 e))
    have b13 : g3.IsTupleIter i1 l1 (n1 + 1) := b1.extBut sb3.extBut D.i12
    obtain ⟨a, b, hTO⟩ := hTO
    refine wpAny_pure ⟨_, rfl, ?_⟩
    show Q (.ref g3.objs.size) _
    have pT : IsPair (g3.push { cls := .type "tuple", data := .seq #[u, v] }) g3.objs.size u v := Heap.get?_push_size _ rfl
    rw [sz] at pT ⊢
    exact k _ ⟨v1, f1, hv1, Heap.get?_push_of_some _ y3⟩ ⟨a, b, Heap.get?_push_of_some _ (kp _ _ D.TOz D.TOi1 D.TOi2 hTO)⟩ (b13.at fun o e => Heap.get?_push_of_some _ e) (b2.at fun o e => Heap.get?_push_of_some _ e) pT
      fun c o n1 _ n3 n4 e => Heap.get?_push_of_some _ (kp c o n1 n3 n4 e)
/-- nothing is left to draw -/
theorem zip_dry {z TI TO i1 i2 l1 l2 : Addr} {n1 n2 : Nat} {us ws : Array Value} {Q : PySem.Fin → Shared → Prop} (hh : A.handled = none) (D : ZipApart z TI TO i1 i2 l1 l2) (hz : ZAny s.heap z TI TO)
    (hTI : IsPair s.heap TI (.ref i1) (.ref i2)) (hTO : ∃ a b, IsPair s.heap TO a b) (a1 : s.heap.IsTupleIter i1 l1 n1) (a2 : s.heap.IsTupleIter i2 l2 n2) (t1 : s.heap.IsTuple l1 us) (t2 : s.heap.IsTuple l2 ws)
    (dry : us[n1]? = none ∨ ws[n2]? = none)
    (k : ∀ h' e, (∀ c o, c ≠ z → c ≠ TO → c ≠ i1 → c ≠ i2 → s.heap.get? c = some o → h'.get? c = some o) → (∃ o, h'.get? e = some o ∧ o.cls = .type "StopIteration") → E (.ref e) { s with heap := h' }) :
    wpAny (model prog w) A (Builtin.«zip.__next__» ⟨[.ref z], []⟩) Q E s := by
  obtain ⟨v0, f, hv, ez⟩ := id hz
  show wpAny _ _ (field (.ref z) 2 >>= _) _ _ _
  refine wpAny_bind (wpAny_field ez rfl (x := .bool false) rfl ?_)
  show wpAny _ _ (field (.ref z) 3 >>= _) _ _ _
  refine wpAny_bind (wpAny_field ez rfl (x := .ref TI) rfl ?_)
  refine wpAny_bind (wpAny_seqItems hTI rfl ?_)
  show wpAny _ _ (Builtin.SmallTypes.ownedTupleIsFree (.ref z) >>= _) _ _ _
  refine wpAny_bind (owned_any hz ?_ fun g1 hz1 sb1 => ?_)
  · simp only [if_true]
    refine wpAny_bind (wpAny_rule ?_)
    refine wpAny_bind (wpAny_field ez rfl (x := .ref TO) rfl ?_)
    refine wpAny_bind (wpAny_setField_rec ez (by simp) fun g1 q1 sb1 => ?_)
    have q1' : g1.get? z = some (zObj .ellipsis f TI TO) := q1
    obtain ⟨a, b, hTO⟩ := hTO
    refine wpAny_bind ?_
    simp only [List.zipIdx_cons, List.zipIdx_nil, List.forIn_cons, List.forIn_nil]
    refine wpAny_bind (wpAny_bind (wpAny_onRaise ?_))
    show wpAny _ _ (Builtin.SmallTypes.nextOf (.ref i1) >>= _) _ _ _
    cases e1 : us[n1]? with
    | none =>
      refine wpAny_bind (RZ.nextOf_tuple_end hh (a1.extBut sb1.extBut D.i1z) (t1.extBut sb1.extBut D.l1z) e1 fun g2 e sb2 he => ?_)
      obtain ⟨oe, ho, hc⟩ := he
      have z2 : g2.get? z = some (zObj .ellipsis f TI TO) := sb2 _ _ D.i1z.symm q1'
      have ne : e ≠ z := fun q => by
        subst q
        rw [z2] at ho
        cases ho
        simp at hc
      refine wpAny_setField_rec z2 (by simp) fun g3 _ sb3 => k g3 e (fun c o m1 _ m3 _ q => sb3.extBut _ _ m1 (sb2 _ _ m3 (sb1.extBut _ _ m1 q))) ⟨oe, sb3.extBut _ _ ne ho, hc⟩
    | some u =>
      have e2 : ws[n2]? = none := dry.resolve_left (by rw [e1]; simp)
      refine wpAny_bind (RZ.nextOf_tuple_item (a1.extBut sb1.extBut D.i1z) (t1.extBut sb1.extBut D.l1z) e1 fun g2 b1 sb2 => wpAny_pure ?_)
      have p2 : IsPair g2 TO a b := sb2.extBut _ _ D.TOi1 (sb1.extBut _ _ D.TOz hTO)
      refine wpAny_bind (wpAny_seqItems p2 rfl (wpAny_bind (wpAny_updateSeq_pair p2 fun g3 p3 sb3 => ?_)))
      refine wpAny_bind (wpAny_letGo (wpAny_pure ?_))
      refine wpAny_bind (wpAny_bind (wpAny_onRaise ?_))
      show wpAny _ _ (Builtin.SmallTypes.nextOf (.ref i2) >>= _) _ _ _
      have c2 : g3.IsTupleIter i2 l2 n2 := ((a2.extBut sb1.extBut D.i2z).extBut sb2.extBut D.i12.symm).extBut sb3.extBut D.TOi2.symm
      have d2 : g3.IsTuple l2 ws := ((t2.extBut sb1.extBut D.l2z).extBut sb2.extBut D.l2i1).extBut sb3.extBut D.l2TO
      refine wpAny_bind (RZ.nextOf_tuple_end hh c2 d2 e2 fun g4 e sb4 he => ?_)
      obtain ⟨oe, ho, hc⟩ := he
      have z4 : g4.get? z = some (zObj .ellipsis f TI TO) := sb4 _ _ D.i2z.symm (sb3.extBut _ _ D.TOz.symm (sb2.extBut _ _ D.i1z.symm q1'))
      have ne : e ≠ z := fun q => by
        subst q
        rw [z4] at ho
        cases ho
        simp at hc
      refine wpAny_setField_rec z4 (by simp) fun g5 _ sb5 => k g5 e (fun c o m1 m2 m3 m4 q => sb5.extBut _ _ m1 (sb4 _ _ m4 (sb3.extBut _ _ m2 (sb2.extBut _ _ m3 (sb1.extBut _ _ m1 q))))) ⟨oe, sb5.extBut _ _ ne ho, hc⟩
  · simp only [Bool.false_eq_true, if_false]
    refine wpAny_bind ?_
    rw [← Array.forIn_toList]
    simp only [List.forIn_cons, List.forIn_nil]
    refine wpAny_bind (wpAny_bind (wpAny_holding ?_))
    show wpAny _ _ (Builtin.SmallTypes.nextOf (.ref i1) >>= _) _ _ _
    cases e1 : us[n1]? with
    | none =>
      refine wpAny_bind (RZ.nextOf_tuple_end (s := { s with heap := g1 }) hh (a1.extBut sb1.extBut D.i1z) (t1.extBut sb1.extBut D.l1z) e1 fun g2 e sb2 he => ?_)
      exact k g2 e (fun c o m1 _ m3 _ q => sb2 _ _ m3 (sb1.extBut _ _ m1 q)) he
    | some u =>
      have e2 : ws[n2]? = none := dry.resolve_left (by rw [e1]; simp)
      refine wpAny_bind (RZ.nextOf_tuple_item (s := { s with heap := g1 }) (a1.extBut sb1.extBut D.i1z) (t1.extBut sb1.extBut D.l1z) e1 fun g2 b1 sb2 => wpAny_pure ?_)
      refine wpAny_pure (wpAny_bind (wpAny_bind (wpAny_holding ?_)))
      show wpAny _ _ (Builtin.SmallTypes.nextOf (.ref i2) >>= _) _ _ _
      refine wpAny_bind (RZ.nextOf_tuple_end (s := { s with heap := g2 }) hh ((a2.extBut sb1.extBut D.i2z).extBut sb2.extBut D.i12.symm) ((t2.extBut sb1.extBut D.l2z).extBut sb2.extBut D.l2i1) e2 fun g3 e sb3 he => ?_)
      exact k g3 e (fun c o m1 _ m3 m4 q => sb3 _ _ m4 (sb2.extBut _ _ m3 (sb1.extBut _ _ m1 q))) he
theorem next_draw {z TI TO i1 i2 l1 l2 : Addr} {n1 n2 : Nat} {us ws : Array Value} {u v : Value} {Q : Option Value → Shared → Prop} (D : ZipApart z TI TO i1 i2 l1 l2) (hz : ZAny s.heap z TI TO)
    (hTI : IsPair s.heap TI (.ref i1) (.ref i2)) (hTO : ∃ a b, IsPair s.heap TO a b) (a1 : s.heap.IsTupleIter i1 l1 n1) (a2 : s.heap.IsTupleIter i2 l2 n2) (t1 : s.heap.IsTuple l1 us) (t2 : s.heap.IsTuple l2 ws)
    (e1 : us[n1]? = some u) (e2 : ws[n2]? = some v)
    (k : ∀ h', ZAny h' z TI TO → (∃ a b, IsPair h' TO a b) → h'.IsTupleIter i1 l1 (n1 + 1) → h'.IsTupleIter i2 l2 (n2 + 1) → IsPair h' s.heap.objs.size u v →
      (∀ c o, c ≠ z → c ≠ TO → c ≠ i1 → c ≠ i2 → s.heap.get? c = some o → h'.get? c = some o) → Q (some (.ref s.heap.objs.size)) { s with heap := h' }) : wpAny (model prog w) A (pyNext (.ref z)) Q E s := by
  obtain ⟨_, _, _, ez⟩ := id hz
  have ty : s.TypeIs (.ref z) "zip" := ⟨_, ez, rfl⟩
  unfold pyNext
  exact wpAny_bind (wpAny_attempt (wpAny_callSpecial?_slot (name := Str.ofString "__next__") ty F.slot_zip_next (wpAny_call_entry F.slot_zip_next ty F.entry_zip_next
    (zip_draw D hz hTI hTO a1 a2 t1 t2 e1 e2 fun h' b1 b2 b3 b4 b5 b6 => wpAny_pure (k h' b1 b2 b3 b4 b5 b6)) (F.args_zip_next_1 _))))
theorem next_dry {z TI TO i1 i2 l1 l2 : Addr} {n1 n2 : Nat} {us ws : Array Value} {Q : Option Value → Shared → Prop} (hh : A.handled = none) (D : ZipApart z TI TO i1 i2 l1 l2) (hz : ZAny s.heap z TI TO)
    (hTI : IsPair s.heap TI (.ref i1) (.ref i2)) (hTO : ∃ a b, IsPair s.heap TO a b) (a1 : s.heap.IsTupleIter i1 l1 n1) (a2 : s.heap.IsTupleIter i2 l2 n2) (t1 : s.heap.IsTuple l1 us) (t2 : s.heap.IsTuple l2 ws)
    (dry : us[n1]? = none ∨ ws[n2]? = none) (k : ∀ h', (∀ c o, c ≠ z → c ≠ TO → c ≠ i1 → c ≠ i2 → s.heap.get? c = some o → h'.get? c = some o) → Q none { s with heap := h' }) : wpAny (model prog w) A (pyNext (.ref z)) Q E s := by
  obtain ⟨_, _, _, ez⟩ := id hz
  have ty : s.TypeIs (.ref z) "zip" := ⟨_, ez, rfl⟩
  unfold pyNext
  refine wpAny_bind (wpAny_attempt (wpAny_callSpecial?_slot (name := Str.ofString "__next__") ty F.slot_zip_next (wpAny_call_entry F.slot_zip_next ty F.entry_zip_next
    (zip_dry hh D hz hTI hTO a1 a2 t1 t2 dry fun h' e kp he => ?_) (F.args_zip_next_1 _))))
  obtain ⟨o, ho, hc⟩ := he
  exact wpAny_bind (wpAny_isInstance (T := "StopIteration") (b := true) ⟨o, ho, hc⟩ isSubtype_stop (wpAny_pure (k _ kp)))
theorem iter_zany {z TI TO : Addr} {Q : Value → Shared → Prop} (hz : ZAny s.heap z TI TO) (h : Q (.ref z) s) : wpAny (model prog w) A (pyIter (.ref z)) Q E s := by
  obtain ⟨v0, f, _, ez⟩ := hz
  have ty : s.TypeIs (.ref z) "zip" := ⟨_, ez, rfl⟩
  refine wpAny_pyIter_slot ty F.slot_zip_iter (wpAny_call_entry F.slot_zip_iter ty F.entry_zip_iter ?_ (F.args_zip_iter_1 _))
  exact wpAny_pure ⟨_, rfl, "zip", _, ty, F.slot_zip_next.lookup, h⟩
end
/-- what a zip of two tuples keeps between turns -/
def ZTurn (a b z TI TO i1 i2 : Addr) (i : Nat) (h : Heap) : Prop := ZAny h z TI TO ∧ IsPair h TI (.ref i1) (.ref i2) ∧ (∃ x y, IsPair h TO x y) ∧ h.IsTupleIter i1 a i ∧ h.IsTupleIter i2 b i
theorem zturn {P : Program} {w : World} {K : PySem.W.Frag} {x : Str} {tpos : Pos} {a b z TI TO i1 i2 : Addr} (D : ZipApart z TI TO i1 i2 a b) :
    Turn P w K (.Name x tpos) (RZ.ItzT K a b) [z, TI, TO, i1, i2] z (ZTurn a b z TI TO i1 i2) where
  mem := List.mem_cons_self
  obj := fun i h st c hc => by
    obtain ⟨⟨_, _, _, hz⟩, hTI, ⟨x, y, hTO⟩, ⟨o1, e1, _, d1⟩, ⟨o2, e2, _, d2⟩⟩ := st
    have e' : c = z ∨ c = TI ∨ c = TO ∨ c = i1 ∨ c = i2 := by simpa using hc
    rcases e' with q | q | q | q | q <;> subst q
    · exact ⟨_, hz, fun v q => nomatch q⟩
    · exact ⟨_, hTI, fun v q => nomatch q⟩
    · exact ⟨_, hTO, fun v q => nomatch q⟩
    · exact ⟨o1, e1, fun v q => by rw [d1] at q; cases q⟩
    · exact ⟨o2, e2, fun v q => by rw [d2] at q; cases q⟩
  keep := fun i h h' st k => by
    obtain ⟨⟨v0, f, hv, hz⟩, hTI, ⟨x, y, hTO⟩, h1, h2⟩ := st
    exact ⟨⟨v0, f, hv, k z (by simp) _ hz⟩, k TI (by simp) _ hTI, ⟨x, y, k TO (by simp) _ hTO⟩, h1.at fun o q => k i1 (by simp) o q, h2.at fun o q => k i2 (by simp) o q⟩
  item := by
    intro X hP hw hK hc i pins s σ H E I hf st hg
    subst hP hw hK
    obtain ⟨hz, hTI, hTO, h1, h2⟩ := st
    obtain ⟨xs, ys, x, y, qx, qy, hx, hy⟩ := hg
    obtain ⟨its, rv, p, _⟩ := I.tuple qx
    obtain ⟨jts, rw', p2, _⟩ := I.tuple qy
    obtain ⟨u, hu, ru⟩ := rv.get hx
    obtain ⟨v, hv, rv2⟩ := rw'.get hy
    have lt : ∀ c ∈ [z, TI, TO, i1, i2], c < s.heap.objs.size := fun c hm => by
      obtain ⟨_, _, _, ez⟩ := id hz
      obtain ⟨_, _, eo⟩ := id hTO
      obtain ⟨_, e1, _⟩ := id h1
      obtain ⟨_, e2, _⟩ := id h2
      have e' : c = z ∨ c = TI ∨ c = TO ∨ c = i1 ∨ c = i2 := by simpa using hm
      rcases e' with q | q | q | q | q <;> subst q
      · exact Heap.lt_size ez
      · exact Heap.lt_size hTI
      · exact Heap.lt_size eo
      · exact Heap.lt_size e1
      · exact Heap.lt_size e2
    refine next_draw D hz hTI hTO h1 h2 p p2 (u := u) (v := v) (by simpa using hu) (by simpa using hv) fun h' z' o' t1 t2 hT kp => ⟨_, rfl, ?_⟩
    have new : ObjOk X.prog X.w (upd H s.heap.objs.size (.tup [x, y])) h' s.heap.objs.size (.tup [x, y]) :=
      ⟨by show 2 ≤ sizeLine; decide, [u, v], .cons ru (.cons rv2 .nil), ⟨_, hT, rfl, _, rfl⟩⟩
    have I1 : Inv X pins σ (upd H s.heap.objs.size (.tup [x, y])) { s with heap := h' } := I.turnedNew (t' := s.toks) (ch := [z, TI, TO, i1, i2])
      (fun c o hb q => kp c o (fun e => hb (by simp [e])) (fun e => hb (by simp [e])) (fun e => hb (by simp [e])) (fun e => hb (by simp [e])) q) hf (Nat.le_refl _) new
    show wpAny _ _ (pure ()) _ _ _
    exact wpAny_pure ⟨.ref s.heap.objs.size, _, I1, rfl, ⟨_, x, y, rfl, I.hok.fresh (Nat.le_refl _), rfl, fun l hl => by rw [I.tuple_inj hl qx]; exact hx, fun l hl => by rw [I.tuple_inj hl qy]; exact hy⟩,
      ⟨z', kp _ _ D.TIz D.TITO D.TIi1 D.TIi2 hTI, o', t1, t2⟩, fun c hm => by rw [upd_ne (Nat.ne_of_lt (lt c hm))]; exact (hf c hm).1⟩
  done := by
    intro X hP hw hK hc i pins s σ H E I hf st hg
    subst hP hw hK
    obtain ⟨hz, hTI, hTO, h1, h2⟩ := st
    obtain ⟨xs, ys, qx, qy, hend⟩ := hg
    obtain ⟨its, rv, p, _⟩ := I.tuple qx
    obtain ⟨jts, rw', p2, _⟩ := I.tuple qy
    have l1 := rv.length
    have l2 := rw'.length
    refine next_dry (I.ok.hd hc) D hz hTI hTO h1 h2 p p2 ?_ fun h' kp => ⟨rfl, I.turnedL (t' := s.toks) (ch := [z, TI, TO, i1, i2])
      (fun c o hb q => kp c o (fun e => hb (by simp [e])) (fun e => hb (by simp [e])) (fun e => hb (by simp [e])) (fun e => hb (by simp [e])) q) hf⟩
    rcases hend with q | q
    · exact .inl (by simp; omega)
    · exact .inr (by simp; omega)
  self := fun A i s Q E st h => iter_zany st.1 h
/-- zip(a, b) of two tuples, one name for the pair -/
def iZipN (K : PySem.W.Frag) (ta : TA) : TI := fun σ H R => ta σ H fun vs H1 => ∃ a b xs ys, vs = [.ref a, .ref b] ∧ SqT K H1 a xs ∧ SqT K H1 b ys ∧ R (RZ.ItzT K a b) H1
theorem pi_zipN {X : Cx} {e e2 : Expr} {ta : TA} {p pos tpos : Pos} {x : Str} (hg : Gl X "zip") (hm : X.mg "zip" = none) (ha : PA X [e, e2] ta)
    (hs : starEach [e, e2] X.env = (false, eval e X.env) :: starEach [e2] X.env := by rfl) (hpl : (backTo pos (starEach [e2] X.env)).any (·.1) = false := by rfl) :
    PI X (.Name x tpos) (.Call (.Name "zip" p) [e, e2] [] pos) (iZipN X.K ta) := by
  refine ⟨fun pins s σ H R I h => ?_⟩
  refine Call_ (ld_blt I hg hm PyProof.Rows.boot_zip (PyProof.Rows.callWith_type1 (thn (ha.run pos pins s σ H _ I h) fun us s1 ⟨vs, H1, I1, r1, q1⟩ => ?_) hs hpl))
  obtain ⟨a, b, xs, ys, ex, qx, qy, q⟩ := q1
  subst ex
  obtain ⟨u, v, rfl, ru, rv⟩ := Vals.two r1
  cases ru
  cases rv
  obtain ⟨its, _, p1, _⟩ := I1.tuple qx
  obtain ⟨jts, _, p2, _⟩ := I1.tuple qy
  obtain ⟨o1, ho1, _⟩ := id p1
  obtain ⟨o2, ho2, _⟩ := id p2
  refine RZ.call_zipT (show s1.heap.IsTuple a its.toArray from p1) (show s1.heap.IsTuple b jts.toArray from p2) fun h' hz hTI hTO h1 h2 hsz hk => wpAny_pyIter_zip hz ?_
  have I2 : Inv X pins σ H1 { s1 with heap := h' } := I1.kept (t' := s1.toks) hk
  refine ⟨s1.heap.objs.size + 4, [s1.heap.objs.size + 4, s1.heap.objs.size + 2, s1.heap.objs.size + 3, s1.heap.objs.size, s1.heap.objs.size + 1], _, _, H1, rfl, I2,
    zturn (PySem.W.ktu_apart s1.heap.objs.size a b (Heap.lt_size ho1) (Heap.lt_size ho2)), ⟨⟨.none, false, .inl rfl, hz⟩, hTI, ⟨_, _, hTO⟩, h1, h2⟩, fun c hm => ?_, q⟩
  have e' : c = s1.heap.objs.size + 4 ∨ c = s1.heap.objs.size + 2 ∨ c = s1.heap.objs.size + 3 ∨ c = s1.heap.objs.size ∨ c = s1.heap.objs.size + 1 := by simpa using hm
  have hle : s1.heap.objs.size ≤ c := by rcases e' with q | q | q | q | q <;> (rw [q]; simp)
  exact I1.fpOk hle (I1.hok.fresh hle)
end WC
/-! enumerate(t) of a tuple, walked by two names -/
namespace WC
open PySem PySem.Spec PyProof.Rows L2
/-- behind enumerate(t): the tuple's iterator, then the enumerate -/
abbrev enH1 (h : Heap) (t : Addr) : Heap := h.push { cls := .type "tuple_iterator", data := .fields #[.ref t, .int 0 0] }
abbrev enO (it : Addr) : Obj := { cls := .type "enumerate", data := .fields #[.none, .bool false, .ref it, rawInt 0, .none, .none] }
theorem meets_enumT (t : Addr) (items : Array Value) :
    Meets (Builtin.«enumerate.__new__» ⟨[.type "enumerate", .ref t], []⟩) (fun _ R s => s.heap.IsTuple t items ∧ R (.ok (.ret (.ref (enH1 s.heap t).objs.size))) { s with heap := (enH1 s.heap t).push (enO s.heap.objs.size) }) :=
  .of_wp fun prog w A R s h => by
    obtain ⟨hp, g, d, tk, os⟩ := s
    obtain ⟨hl, h⟩ := h
    have hsub := sub_enumerate
    have hL : Heap.IsTuple (Shared.heap ⟨hp, g, d, tk, os⟩) t items := hl
    obtain ⟨⟨c, dct, dt, sl⟩, ho, hc, n, hd⟩ := id hl
    have ho' : (Shared.heap ⟨hp, g, d, tk, os⟩).get? t = some ⟨c, dct, dt, sl⟩ := ho
    subst hc hd
    wp_walk using wpAny_loadPart' ho
    refine wpAny_stack_any fun st => wpAny_pure ?_
    split
    · rename_i c _ _ _ _ _
      cases (c == Value.type "enumerate") <;>
      · wp_walk using wpAny_loadPart' ho, wpAny_pyIter_tuple hL
        exact ⟨_, rfl, h⟩
    · wp_walk using wpAny_loadPart' ho, wpAny_pyIter_tuple hL
      exact ⟨_, rfl, h⟩
section
variable {prog : Program} {w : World} {A : Around} {E : Value → Shared → Prop} {s : Shared}
theorem call_enumT {t : Addr} {items : Array Value} {Q : Value → Shared → Prop} (hL : s.heap.IsTuple t items)
    (k : ∀ h', IsEnum h' (s.heap.objs.size + 1) s.heap.objs.size 0 .none → h'.IsTupleIter s.heap.objs.size t 0 → (∀ b o, s.heap.get? b = some o → h'.get? b = some o) → Q (.ref (s.heap.objs.size + 1)) { s with heap := h' }) :
    wpAny (model prog w) A (call (.type "enumerate") [.ref t]) Q E s := by
  have sz : (enH1 s.heap t).objs.size = s.heap.objs.size + 1 := Heap.size_push ..
  have he : IsEnum ((enH1 s.heap t).push (enO s.heap.objs.size)) (s.heap.objs.size + 1) s.heap.objs.size 0 .none := by
    have q := Heap.get?_push_size (enH1 s.heap t) (o := enO s.heap.objs.size) rfl
    rw [sz] at q
    exact q
  refine callType_new F.called_enumerate (by decide) (F.typeCall_enumerate_1 _) (F.newCall_enumerate_1 _) (fun obj => F.args_object_init_2 obj _) F.entry_enumerate_new (meets_enumT t items) ⟨hL, ?_⟩
  show _ ∧ _
  rw [sz]
  exact ⟨⟨_, he, rfl⟩, k _ he ⟨_, Heap.get?_push_of_some _ (Heap.get?_push_size _ rfl), rfl, rfl⟩ fun b o q => Heap.get?_push_of_some _ (Heap.get?_push_of_some _ q)⟩
end
/-- the tuple at a, each item in a new pair with its place -/
def ItEn (K : PySem.W.Frag) (a : Addr) : It :=
  ⟨fun i H => ∃ (xs : List V) (x : V), SqT K H a xs ∧ xs[i]? = some x, fun i H v H' => ∃ T x, v = .ref T ∧ H T = none ∧ H' = upd H T (.tup [.int (i : Nat), x]) ∧ ∀ xs, SqT K H a xs → xs[i]? = some x, fun i H => ∃ xs : List V, SqT K H a xs ∧ xs.length = i⟩
theorem enturn {P : Program} {w : World} {K : PySem.W.Frag} {elts : List Expr} {kk : Nat} {tpos : Pos} (a e it : Addr) (ne : e ≠ it) (na : a ≠ it) (nea : e ≠ a) :
    Turn P w K (.Tuple elts kk tpos) (ItEn K a) [e, it] e (fun i h => (∃ old, IsEnum h e it ((i : Nat) : Int) old) ∧ h.IsTupleIter it a i) where
  mem := List.mem_cons_self
  obj := fun i h st b hb => by
    obtain ⟨⟨old, he⟩, o, ho, hc, hd⟩ := st
    have e' : b = e ∨ b = it := by simpa using hb
    rcases e' with q | q <;> subst q
    · exact ⟨_, he, fun v q => nomatch q⟩
    · exact ⟨o, ho, fun v q => by rw [hd] at q; cases q⟩
  keep := fun i h h' st k => by
    obtain ⟨⟨old, he⟩, hi⟩ := st
    exact ⟨⟨old, k e (by simp) _ he⟩, hi.at fun o q => k it (by simp) o q⟩
  item := by
    intro X hP hw hK hc i pins s σ H E I hf st hg
    subst hP hw hK
    obtain ⟨⟨old, he⟩, hit⟩ := st
    obtain ⟨xs, x, qx, hx⟩ := hg
    obtain ⟨its, rv, p, _⟩ := I.tuple qx
    obtain ⟨u, hu, ru⟩ := rv.get hx
    have elt : e < s.heap.objs.size := Heap.lt_size he
    have ilt : it < s.heap.objs.size := by
      obtain ⟨_, q, _⟩ := id hit
      exact Heap.lt_size q
    have ilen : i < its.toArray.size := by
      have q := (List.getElem?_eq_some_iff.mp hu).1
      simpa using q
    have Dr := Draws.tuple (prog := X.prog) (w := X.w) (A := X.A.in1) (I.ok.hd hc) it a na its.toArray
    refine wpAny_pyNext_enum_itemC Dr he ⟨hit, p⟩ ilen ne (by simp [ne, nea]) fun y h' tk hy ho st' hT hsz hk => ⟨_, rfl, ?_⟩
    have ey : y = u := by
      have hy' : its.toArray[i]? = some y := hy
      have q : its[i]? = some y := by simpa using hy'
      rw [hu] at q
      exact (Option.some.inj q).symm
    subst ey
    refine wpAny_letOwnedTupleGo_enum (s := { s with heap := h', toks := tk + 1 }) ho fun h2 he2 sb => ?_
    have hT2 : h2.get? s.heap.objs.size = some { cls := .type "tuple", data := .seq #[.int (i : Nat) tk, y] } := (sb.2 _ (Nat.ne_of_gt elt)).trans hT
    have new : ObjOk X.prog X.w (upd H s.heap.objs.size (.tup [.int (i : Nat), x])) h2 s.heap.objs.size (.tup [.int (i : Nat), x]) :=
      ⟨by show 2 ≤ sizeLine; decide, [.int (i : Nat) tk, y], .cons ⟨_, rfl⟩ (.cons ru .nil), ⟨_, hT2, rfl, _, rfl⟩⟩
    have I1 : Inv X pins σ (upd H s.heap.objs.size (.tup [.int (i : Nat), x])) { s with heap := h2, toks := tk + 1 } :=
      I.turnedNew (ch := [e, it]) (fun b ob hb q => (sb.2 b (fun z => hb (by simp [z]))).trans (hk b ob (fun z => hb (by simp [z])) (fun z => hb (by simp [z])) q)) hf (Nat.le_refl _) new
    refine ⟨.ref s.heap.objs.size, _, I1, rfl, ⟨_, x, rfl, I.hok.fresh (Nat.le_refl _), rfl, fun ys hy => by rw [I.tuple_inj hy qx]; exact hx⟩, ⟨⟨y, ?_⟩, st'.1.at fun o q => (sb.2 it (Ne.symm ne)).trans q⟩, fun b hb => ?_⟩
    · have e1 : ((i + 1 : Nat) : Int) = (i : Int) + 1 := by omega
      rw [e1]
      exact he2
    · have blt : b < s.heap.objs.size := by
        have e' : b = e ∨ b = it := by simpa using hb
        rcases e' with q | q <;> (rw [q]; assumption)
      rw [upd_ne (Nat.ne_of_lt blt)]
      exact (hf b hb).1
  done := by
    intro X hP hw hK hc i pins s σ H E I hf st hg
    subst hP hw hK
    obtain ⟨⟨old, he⟩, hit⟩ := st
    obtain ⟨xs, qx, hx⟩ := hg
    obtain ⟨its, rv, p, _⟩ := I.tuple qx
    have hl := rv.length
    have en : its.toArray.size = i := by
      rw [List.size_toArray, ← hl, hx]
    have Dr := Draws.tuple (prog := X.prog) (w := X.w) (A := X.A.in1) (I.ok.hd hc) it a na its.toArray
    rw [en] at Dr
    obtain ⟨f0, f1, f2, f3, f4, f5⟩ := hf it (by simp)
    exact wpAny_pyNext_enum_endD Dr he ⟨hit, p⟩ fun h' eb => ⟨rfl, I.turned (t' := s.toks) (fun b o hb q => eb b o hb q) f0 f1 f3 f4 f5⟩
  self := fun A i s Q E st h => wpAny_pyIter_enum st.1.choose_spec h
def iEnT (K : PySem.W.Frag) (ta : TA) : TI := fun σ H R => ta σ H fun vs H1 => ∃ a xs, vs = [.ref a] ∧ SqT K H1 a xs ∧ R (ItEn K a) H1
theorem pi_enumT {X : Cx} {e : Expr} {ta : TA} {p pos tpos : Pos} {elts : List Expr} {kk : Nat} (hg : Gl X "enumerate") (hm : X.mg "enumerate" = none) (ha : PA X [e] ta) (hs : starEach [e] X.env = [(false, eval e X.env)] := by rfl) :
    PI X (.Tuple elts kk tpos) (.Call (.Name "enumerate" p) [e] [] pos) (iEnT X.K ta) := by
  refine ⟨fun pins s σ H R I h => ?_⟩
  refine Call_ (ld_blt I hg hm boot_enumerate (PyProof.Rows.callWith_type1 (thn (ha.run pos pins s σ H _ I h) fun us s1 ⟨vs, H1, I1, r1, q1⟩ => ?_) hs rfl))
  obtain ⟨a, xs, ex, qx, q⟩ := q1
  subst ex
  obtain ⟨u, rfl, ru⟩ := Vals.one r1
  cases ru
  obtain ⟨its, rv, p', _⟩ := I1.tuple qx
  obtain ⟨oa, hoa, _⟩ := id p'
  have alt : a < s1.heap.objs.size := Heap.lt_size hoa
  refine call_enumT (show s1.heap.IsTuple a its.toArray from p') fun h' he hit hk => wpAny_pyIter_enum he ?_
  have I2 : Inv X pins σ H1 { s1 with heap := h' } := I1.kept (t' := s1.toks) hk
  refine ⟨s1.heap.objs.size + 1, [s1.heap.objs.size + 1, s1.heap.objs.size], _, _, H1, rfl, I2, enturn a (s1.heap.objs.size + 1) s1.heap.objs.size (Nat.succ_ne_self _) (Nat.ne_of_lt alt) (Nat.ne_of_gt (Nat.lt_succ_of_lt alt)), ⟨⟨.none, he⟩, hit⟩, fun b hb => ?_, q⟩
  have e' : b = s1.heap.objs.size + 1 ∨ b = s1.heap.objs.size := by simpa using hb
  have hle : s1.heap.objs.size ≤ b := by rcases e' with q | q <;> (rw [q]; simp)
  exact I1.fpOk hle (I1.hok.fresh hle)
end WC
/-! rules over data: repr, <=, sorted pairs, the least text, index, count, remove, a text times nought or one, the least of three, a tuple backwards -/
namespace L2
open PySem PySem.Spec PyProof.Rows
theorem Inv.tok' {X : Cx} {pins : List (Addr × Obj)} {σ : St} {H : Hp} {s : Shared} {h' : Heap} (I : Inv X pins σ H s) (k : ∀ b o, s.heap.get? b = some o → h'.get? b = some o) (t : Nat) : Inv X pins σ H { s with heap := h', toks := t } := I.kept k
end L2
namespace WC
open PySem PySem.Spec PyProof.Rows L2
section
variable {X : Cx}
/-! ### repr -/
def rReprB : List V → Hp → VK → Prop := fun xs H Q => ∃ k : Bool, xs = [.bl k] ∧ Q (.str (if k then "True" else "False")) H
theorem call_repr_bl : CallR X (.builtin "repr") rReprB := by
  intro pins s σ H xs us Q I r h
  obtain ⟨k, rfl, q⟩ := h
  obtain ⟨u, rfl, ru⟩ := Vals.one r
  cases ru
  exact P.repr_of_bool ⟨.str _, H, I.tok _, ⟨_, rfl⟩, q⟩
def rReprD (K : PySem.W.Frag) : List V → Hp → VK → Prop := fun xs H Q => ∃ (a : Addr) (d : PyData), xs = [.ref a] ∧ Dp K H (.ref a) d ∧ d.showable = true ∧ d.hasDict = false ∧ d.depth ≤ 60 ∧ d.shown.length ≤ sizeLine ∧ Q (.str d.shown) H
theorem call_reprD {k : Nat} (hg : X.A.guards = some []) (hr : Room k X.A) : CallR X (.builtin "repr") (rReprD X.K) := by
  intro pins s σ H xs us Q I r h
  obtain ⟨a, d, rfl, hd, h1, h2, h3, h4, q⟩ := h
  obtain ⟨u, rfl, ru⟩ := Vals.one r
  obtain ⟨as, rd⟩ := Dp.reads I d _ u hd ru
  obtain rfl : u = Value.ref a := ru
  have hu := hr.units
  exact repr_of_reads' rd h1 (PyData.noDict_hsm h2) hg (by omega) (fun _ _ e => e) (fun h' u tk kp => ⟨.str _, H, I.tok' kp tk, ⟨u, rfl⟩, q⟩) h4

/-! ### order -/
def rLeD (K : PySem.W.Frag) : R2 := fun x y H Q => ∃ d e, Dp K H x d ∧ Dp K H y e ∧ PySem.W.alike d e = true ∧ d ≠ .none ∧ d.depth ≤ 60 ∧ Q (.bl (!PySem.W.dataLt e d)) H
theorem op_leD {k : Nat} (hr : Room k X.A) : OpR X (compareOp .LtE) (rLeD X.K) := by
  intro pins s σ H x y v u Q I rx ry h
  obtain ⟨d, e, hd, he, h1, h2, h3, q⟩ := h
  obtain ⟨as, r1⟩ := Dp.reads I d x v hd rx
  obtain ⟨bs, r2⟩ := Dp.reads I e y u he ry
  have hu := hr.units
  exact PySem.W.le_data r1 r2 h1 h2 (by have := Nat.min_le_left d.depth e.depth; omega) ⟨.bl _, H, I, rfl, q⟩

/-! ### index, count, remove -/
def rIdxL (K : PySem.W.Frag) : V → List V → Hp → VK → Prop := fun x xs H Q => ∃ (p : Addr) (ys : List Str) (y : Str), x = .ref p ∧ xs = [.str y] ∧ SqL K H p (ys.map V.str) ∧ y ∈ ys ∧ Q (.int (ys.idxOf y : Nat)) H
theorem mt_indexS : MtR X "list.index" (rIdxL X.K) := by
  intro pins s σ H x xs v us Q I rx rxs h
  obtain ⟨p, ys, y, rfl, rfl, hs, hm, q⟩ := h
  cases rx
  obtain ⟨u, rfl, ru⟩ := Vals.one rxs
  obtain ⟨t, rfl⟩ := ru
  obtain ⟨its, rv, pl, hz⟩ := I.list hs
  rw [List.length_map] at hz
  exact PySem.SeqAt.list_index_strs pl.isList (Vals.strs rv) hz hm ⟨.int _, H, I.tok _, ⟨_, rfl⟩, q⟩
def rIdxT (K : PySem.W.Frag) : V → List V → Hp → VK → Prop := fun x xs H Q => ∃ (p : Addr) (ys : List Str) (y : Str), x = .ref p ∧ xs = [.str y] ∧ SqT K H p (ys.map V.str) ∧ y ∈ ys ∧ Q (.int (ys.idxOf y : Nat)) H
theorem mt_tindexS : MtR X "tuple.index" (rIdxT X.K) := by
  intro pins s σ H x xs v us Q I rx rxs h
  obtain ⟨p, ys, y, rfl, rfl, hs, hm, q⟩ := h
  cases rx
  obtain ⟨u, rfl, ru⟩ := Vals.one rxs
  obtain ⟨t, rfl⟩ := ru
  obtain ⟨its, rv, pt, hz⟩ := I.tuple hs
  exact PySem.SeqAt.tuple_index_strs (show s.heap.IsTuple p its.toArray from pt) (Vals.strs rv) hm ⟨.int _, H, I.tok _, ⟨_, rfl⟩, q⟩
theorem plain_strs : ∀ ys : List Str, PyData.plainAll (ys.map PyData.str) = true
  | [] => rfl
  | y :: ys => by
    show (PyData.plain (.str y) && PyData.plainAll (ys.map PyData.str)) = true
    rw [plain_strs ys]
    rfl
theorem depth_strs : ∀ ys : List Str, PyData.depthAll (ys.map PyData.str) = 0
  | [] => rfl
  | y :: ys => by
    show max (PyData.depth (.str y)) (PyData.depthAll (ys.map PyData.str)) = 0
    rw [depth_strs ys]
    rfl
theorem eqv_str (x y : Str) : PyData.eqv (.str x) (.str y) = decide (x = y) := by
  unfold PyData.eqv
  by_cases e : x = y
  · subst e
    simp
  · simp [e]
theorem count_strs (y : Str) : ∀ ys : List Str, (ys.map PyData.str).countP (fun z => PyData.eqv z (.str y)) = ys.count y
  | [] => rfl
  | z :: ys => by
    rw [List.map_cons, List.countP_cons, List.count_cons, count_strs y ys, eqv_str]
    by_cases e : z = y
    · subst e
      simp
    · simp [e]
def rCntT (K : PySem.W.Frag) : V → List V → Hp → VK → Prop := fun x xs H Q => ∃ (p : Addr) (ys : List Str) (y : Str), x = .ref p ∧ xs = [.str y] ∧ SqT K H p (ys.map V.str) ∧ Q (.int (ys.count y : Nat)) H
theorem mt_tcountS {k : Nat} (hr : Room k X.A) : MtR X "tuple.count" (rCntT X.K) := by
  intro pins s σ H x xs v us Q I rx rxs h
  obtain ⟨p, ys, y, rfl, rfl, hs, q⟩ := h
  cases rx
  obtain ⟨u, rfl, ru⟩ := Vals.one rxs
  obtain ⟨t, rfl⟩ := ru
  obtain ⟨its, rv, pt, hz⟩ := I.tuple hs
  obtain ⟨as, ra⟩ := Dp.readsAll I (ys.map PyData.str) _ its (DpAll.strs ys) rv
  have hu := hr.units
  refine PySem.SeqAt.count_tuple_data (show s.heap.IsTuple p its.toArray from pt) (by simpa using ra) (Reads.str y t) (plain_strs ys) rfl (by rw [depth_strs]; simp; omega) ⟨.int _, H, I.tok _, ⟨_, rfl⟩, ?_⟩
  rw [count_strs]
  exact q
theorem place_strs (y : Str) : ∀ {ys : List Str}, y ∈ ys → PySem.SeqAt.dataPlace (ys.map PyData.str) (.str y) = some (ys.idxOf y)
  | [], h => by cases h
  | z :: ys, h => by
    unfold PySem.SeqAt.dataPlace
    rw [List.map_cons, List.findIdx?_cons, List.idxOf_cons, eqv_str]
    by_cases e : z = y
    · subst e
      simp
    · have hm : y ∈ ys := by
        rcases List.mem_cons.mp h with q | q
        · exact absurd q.symm e
        · exact q
      have ih := place_strs y hm
      unfold PySem.SeqAt.dataPlace at ih
      have e2 : (z == y) = false := by simpa using e
      simp only [e, decide_false, Bool.false_eq_true, if_false, ih, e2, cond_false]
      rfl
theorem erase_map_str (ys : List Str) (j : Nat) : (ys.map V.str).eraseIdx j = (ys.eraseIdx j).map V.str := by
  induction ys generalizing j with
  | nil => rfl
  | cons y ys ih =>
    cases j with
    | zero => rfl
    | succ j =>
      show V.str y :: (ys.map V.str).eraseIdx j = V.str y :: (ys.eraseIdx j).map V.str
      rw [ih]
def rRemS : V → List V → Hp → VK → Prop := fun x xs H Q => ∃ (l : Addr) (ys : List Str) (y : Str), x = .ref l ∧ xs = [.str y] ∧ H l = some (.lst (ys.map V.str)) ∧ y ∈ ys ∧ Q .non (upd H l (.lst ((ys.erase y).map V.str)))
theorem mt_removeS {k : Nat} (hr : Room k X.A) : MtR X "list.remove" rRemS := by
  intro pins s σ H x xs v us Q I rx rxs h
  obtain ⟨l, ys, y, rfl, rfl, hH, hm, q⟩ := h
  cases rx
  obtain ⟨u, rfl, ru⟩ := Vals.one rxs
  obtain ⟨t, rfl⟩ := ru
  obtain ⟨z, its, n, rv, hl, e⟩ := I.lstM hH
  obtain ⟨as, ra⟩ := Dp.readsAll I (ys.map PyData.str) _ its (DpAll.strs ys) rv
  have hu := hr.units
  rw [List.length_map] at hl z
  refine PySem.SeqAt.remove_list_data (l := l) (vs := its.toArray) ⟨_, e, rfl, n, rfl⟩ (by simpa using ra) (Reads.str y t) (plain_strs ys) rfl (by rw [depth_strs]; simp; omega) (place_strs y hm) (by rw [List.size_toArray]; omega) ?_
  have er : (ys.map V.str).eraseIdx (ys.idxOf y) = (ys.erase y).map V.str := by
    rw [erase_map_str, List.erase_eq_eraseIdx_of_idxOf rfl]
  have rr := rv.eraseIdx (ys.idxOf y)
  rw [er] at rr
  refine ⟨.non, _, I.lset (its' := its.eraseIdx (ys.idxOf y)) (t' := s.toks) hH e ?_ rr ?_, rfl, q⟩
  · show its.toArray.eraseIdxIfInBounds (ys.idxOf y) = (its.eraseIdx (ys.idxOf y)).toArray
    rw [List.eraseIdxIfInBounds_toArray]
  · rw [List.length_map]
    have := List.length_erase_le (a := y) (l := ys)
    omega

/-! ### a text times nought or one, the least of three -/
def rMulS : R2 := fun x y H Q => ∃ (z : Str) (i : Int), x = .str z ∧ y = .int i ∧ ((i = 0 ∧ Q (.str Str.empty) H) ∨ (i = 1 ∧ Q (.str z) H))
theorem op_mul_str : OpR X (binaryOp .Mult) rMulS := by
  intro pins s σ H x y v u Q I rx ry h
  obtain ⟨z, i, rfl, rfl, q⟩ := h
  obtain ⟨t, rfl⟩ := rx
  obtain ⟨t', rfl⟩ := ry
  rcases q with ⟨rfl, q⟩ | ⟨rfl, q⟩
  · exact P.mul_str_none (by decide) (by decide) ⟨.str _, H, I.tok _, ⟨_, rfl⟩, q⟩
  · refine P.mul_str (by decide) (fun _ e => ?_) (fun _ e => ?_) ?_
    · simp at e
    · simp at e
    · rw [if_neg (by decide), if_pos (by simp)]
      exact ⟨.str _, H, I, ⟨_, rfl⟩, q⟩
def rMin3 : List V → Hp → VK → Prop := fun xs H Q => ∃ i j l : Int, xs = [.int i, .int j, .int l] ∧ Q (.int (min (min i j) l)) H
theorem call_min3 (hc : X.calm = true) : CallR X (.builtin "min") rMin3 := by
  intro pins s σ H xs us Q I r h
  obtain ⟨i, j, l, rfl, q⟩ := h
  cases r with
  | cons r1 r =>
    obtain ⟨u, w', rfl, r2, r3⟩ := Vals.two r
    obtain ⟨t1, rfl⟩ := r1
    obtain ⟨t2, rfl⟩ := r2
    obtain ⟨t3, rfl⟩ := r3
    refine min_three_ints (I.ok.hd hc) fun h' tk k => ⟨_, H, I.kept k, ?_, q⟩
    by_cases h1 : j < i
    · by_cases h2 : l < j
      · rw [if_pos h1, if_pos h2, show min (min i j) l = l by omega]
        exact ⟨_, rfl⟩
      · rw [if_pos h1, if_neg h2, show min (min i j) l = j by omega]
        exact ⟨_, rfl⟩
    · by_cases h2 : l < i
      · rw [if_neg h1, if_pos h2, show min (min i j) l = l by omega]
        exact ⟨_, rfl⟩
      · rw [if_neg h1, if_neg h2, show min (min i j) l = i by omega]
        exact ⟨_, rfl⟩

/-! ### the least text of a list -/
def leastS (x : Str) (xs : List Str) : Str := xs.foldl (fun a y => if y.cps.toList < a.cps.toList then y else a) x
theorem minD_strs : ∀ (xs : List Str) (x : Str), PySem.W.minD (.str x) (xs.map PyData.str) = .str (leastS x xs)
  | [], x => rfl
  | y :: xs, x => by
    have ih := minD_strs xs (if y.cps.toList < x.cps.toList then y else x)
    unfold PySem.W.minD at ih ⊢
    rw [List.map_cons, List.foldl_cons, PySem.W.dataLt_str]
    unfold leastS at ih ⊢
    rw [List.foldl_cons, ← ih]
    by_cases e : y.cps.toList < x.cps.toList
    · simp [e]
    · simp [e]
theorem alike_strs (xs : List Str) : PySem.W.AlikeAll (xs.map PyData.str) := by
  refine ⟨fun x hx y hy => ?_, fun x hx e => ?_⟩
  · obtain ⟨a, _, rfl⟩ := List.mem_map.mp hx
    obtain ⟨b, _, rfl⟩ := List.mem_map.mp hy
    rfl
  · obtain ⟨a, _, rfl⟩ := List.mem_map.mp hx
    cases e
def rMinS (K : PySem.W.Frag) : List V → Hp → VK → Prop := fun xs H Q => ∃ (p : Addr) (y : Str) (ys : List Str), xs = [.ref p] ∧ SqL K H p ((y :: ys).map V.str) ∧ Q (.str (leastS y ys)) H
theorem cr_minS {k : Nat} (hc : X.calm = true) (hr : Room k X.A) : CallR X (.builtin "min") (rMinS X.K) := by
  intro pins s σ H xs us Q I r h
  obtain ⟨p, y, ys, rfl, hs, q⟩ := h
  obtain ⟨u, rfl, ru⟩ := Vals.one r
  cases ru
  obtain ⟨its, rv, pl, hz⟩ := I.list hs
  obtain ⟨as, ra⟩ := Dp.readsAll I ((y :: ys).map PyData.str) _ its (DpAll.strs (y :: ys)) rv
  have hu := hr.units
  have dz : PyData.depthAll (PyData.str y :: ys.map PyData.str) = 0 := depth_strs (y :: ys)
  refine PySem.W.min_list_data (x := .str y) (xs := ys.map PyData.str) (I.ok.hd hc) pl.isList (by simpa using ra) (alike_strs (y :: ys)) (by rw [dz]; omega) fun i v h' tk bs _ rd k => ?_
  rw [minD_strs] at rd
  cases rd with
  | str _ t => exact ⟨.str _, H, I.tok' k tk, ⟨t, rfl⟩, q⟩

/-! ### sorted -/
def rSortD {β : Type} (K : PySem.W.Frag) (enc : β → PyData) : List V → Hp → VK → Prop := fun vs H Q => ∃ (a : Addr) (bs : List β), vs = [.ref a] ∧ Dp K H (.ref a) (.list (bs.map enc)) ∧
  ∀ (p : Addr) (ys : List V), H p = none → DpAll K H ys ((bs.mergeSort (PySem.W.dataLe false enc)).map enc) → Q (.ref p) (upd H p (.lst ys))
theorem vals_each {β : Type} {K : PySem.W.Frag} {H : Hp} {enc : β → PyData} : ∀ {vs : List Value} {bs : List β}, PySem.W.EachIs (fun v b => ∃ x, RelV x v ∧ Dp K H x (enc b)) vs bs → ∃ ys, Vals ys vs ∧ DpAll K H ys (bs.map enc)
  | _, _, .nil => ⟨[], .nil, .nil⟩
  | _, _, .cons ⟨x, r, d⟩ t => by
    obtain ⟨ys, h1, h2⟩ := vals_each t
    exact ⟨x :: ys, .cons r h1, .cons d h2⟩
theorem each_vals {β : Type} {K : PySem.W.Frag} {H : Hp} {enc : β → PyData} : ∀ {bs : List β} {ys : List V} {vs : List Value}, Vals ys vs → DpAll K H ys (bs.map enc) → PySem.W.EachIs (fun v b => ∃ x, RelV x v ∧ Dp K H x (enc b)) vs bs
  | [], _, _, r, h => by
    cases h
    cases r
    exact .nil
  | b :: bs, _, _, r, h => by
    cases h with
    | cons h1 h2 =>
      cases r with
      | cons r1 r2 => exact .cons ⟨_, r1, h1⟩ (each_vals r2 h2)
theorem cr_sortD {β : Type} {k : Nat} {enc : β → PyData} (hal : ∀ b b', PySem.W.alike (enc b) (enc b') = true) (hso : ∀ bs : List β, PySem.W.Sortable (bs.map enc)) (hd : ∀ b, (enc b).depth ≤ 10) (hr : Room k X.A) :
    CallR X (.builtin "sorted") (rSortD X.K enc) := by
  intro pins s σ H vs us Q I r h
  obtain ⟨a, bs, rfl, hD, q⟩ := h
  obtain ⟨u, rfl, ru⟩ := Vals.one r
  cases ru
  cases hD with
  | @lst _ xs _ hs hall =>
    obtain ⟨its, rv, pl, hz⟩ := I.list hs
    have e1 := each_vals (enc := enc) rv hall
    have hu := hr.units
    have hlen : xs.length = bs.length := by rw [hall.length, List.length_map]
    refine PySem.W.sorted_data (enc := enc) pl.isList e1 (e1.mono fun v b ⟨x, rx, dx⟩ => Dp.reads I (enc b) x v dx rx) (PySem.W.AllAlike.of hal) (hso bs) (by omega) (fun b _ => by have := hd b; omega) fun out hl he => ?_
    obtain ⟨ys, h1, h2⟩ := vals_each he
    obtain ⟨ep, he'⟩ := PyProof.Rows.sortedAll_at s.heap its (List.toArray out)
    have hy : ys.length ≤ sizeLine := by rw [h1.length, hl]; omega
    exact ⟨.ref _, upd H (s.heap.objs.size + 1) (.lst ys), I.laid (t' := s.toks) (fun _ _ => PyProof.Rows.sortedAll_old) (Nat.le_succ _) ⟨hy, out, ep, h1, he'⟩, rfl, q _ ys (I.hok.fresh (Nat.le_succ _)) h2⟩
theorem cr_sortedT {k : Nat} (hr : Room k X.A) : CallR X (.builtin "sorted") (rSortD X.K PyData.str) :=
  cr_sortD (fun _ _ => rfl) (fun bs => PySem.W.Sortable.others fun b => ⟨(by intro q; cases q), fun xs q => by cases q⟩) (fun b => by show 0 ≤ 10; decide) hr
theorem cr_sortedPS {k : Nat} (hr : Room k X.A) : CallR X (.builtin "sorted") (rSortD X.K dP) :=
  cr_sortD (fun _ _ => rfl) (fun bs => PySem.W.Sortable.tuples fun b => ⟨_, _, rfl⟩) (fun b => by show (dP b).depth ≤ 10; simp [dP, PyData.depth, PyData.depthAll]) hr
end
end WC
/-! == and in, over our kinds of data -/
namespace WC
open PySem PySem.Spec PyProof.Rows L2
structure Enc {β : Type} [DecidableEq β] (enc : β → PyData) : Prop where
  plain : ∀ b, (enc b).plain = true
  depth : ∀ b, (enc b).depth ≤ 5
  eqv : ∀ a b, PyData.eqv (enc a) (enc b) = decide (a = b)
theorem eqvAll_map {β : Type} [DecidableEq β] {enc : β → PyData} (E : ∀ a b, PyData.eqv (enc a) (enc b) = decide (a = b)) : ∀ xs ys : List β, PyData.eqvAll (xs.map enc) (ys.map enc) = decide (xs = ys)
  | [], [] => by simp [PyData.eqvAll]
  | [], y :: ys => by simp [PyData.eqvAll]
  | x :: xs, [] => by simp [PyData.eqvAll]
  | x :: xs, y :: ys => by
    show PyData.eqvAll (enc x :: xs.map enc) (enc y :: ys.map enc) = _
    unfold PyData.eqvAll
    rw [E, eqvAll_map E xs ys]
    by_cases h1 : x = y <;> by_cases h2 : xs = ys <;> simp [h1, h2]
theorem plainAll_map {β : Type} {enc : β → PyData} (E : ∀ a, (enc a).plain = true) : ∀ xs : List β, PyData.plainAll (xs.map enc) = true
  | [] => rfl
  | x :: xs => by
    show (PyData.plain (enc x) && PyData.plainAll (xs.map enc)) = true
    rw [E, plainAll_map E xs]
    rfl
theorem depthAll_map {β : Type} {enc : β → PyData} {n : Nat} (E : ∀ a, (enc a).depth ≤ n) : ∀ xs : List β, PyData.depthAll (xs.map enc) ≤ n
  | [] => Nat.zero_le _
  | x :: xs => by
    show max (PyData.depth (enc x)) (PyData.depthAll (xs.map enc)) ≤ n
    exact Nat.max_le.mpr ⟨E x, depthAll_map E xs⟩
theorem depth_list (ds : List PyData) : (PyData.list ds).depth = PyData.depthAll ds + 1 := by
  simp [PyData.depth]
  try omega
theorem depth_tuple (ds : List PyData) : (PyData.tuple ds).depth = PyData.depthAll ds + 1 := by
  simp [PyData.depth]
  try omega
theorem encS : Enc PyData.str := ⟨fun _ => rfl, fun _ => Nat.zero_le _, eqv_str⟩
theorem enc_list {β : Type} [DecidableEq β] {enc : β → PyData} {n : Nat} (p : ∀ a, (enc a).plain = true) (d : ∀ a, (enc a).depth ≤ n) (e : ∀ a b, PyData.eqv (enc a) (enc b) = decide (a = b)) (hn : n ≤ 4) : Enc (fun xs : List β => PyData.list (xs.map enc)) :=
  ⟨fun xs => plainAll_map p xs, fun xs => by rw [depth_list]; have := depthAll_map d xs; omega, fun xs ys => eqvAll_map e xs ys⟩
theorem enc_tuple {β : Type} [DecidableEq β] {enc : β → PyData} {n : Nat} (p : ∀ a, (enc a).plain = true) (d : ∀ a, (enc a).depth ≤ n) (e : ∀ a b, PyData.eqv (enc a) (enc b) = decide (a = b)) (hn : n ≤ 4) : Enc (fun xs : List β => PyData.tuple (xs.map enc)) :=
  ⟨fun xs => plainAll_map p xs, fun xs => by rw [depth_tuple]; have := depthAll_map d xs; omega, fun xs ys => eqvAll_map e xs ys⟩
theorem depth_S (x : Str) : (PyData.str x).depth ≤ 0 := Nat.zero_le _
theorem encL : Enc dL := enc_list encS.plain depth_S encS.eqv (by decide)
theorem encT : Enc dT := enc_tuple encS.plain depth_S encS.eqv (by decide)
theorem depth_P (x : PP) : (dP x).depth ≤ 1 := by
  show (PyData.tuple [.str x.1, .str x.2]).depth ≤ 1
  rw [depth_tuple]
  have := depthAll_map depth_S [x.1, x.2]
  exact Nat.succ_le_succ this
theorem encP : Enc dP := ⟨fun _ => rfl, fun b => Nat.le_trans (depth_P b) (by decide), fun a b => by
  have h := encT.eqv [a.1, a.2] [b.1, b.2]
  rw [show PyData.eqv (dP a) (dP b) = PyData.eqv (dT [a.1, a.2]) (dT [b.1, b.2]) from rfl, h]
  obtain ⟨a1, a2⟩ := a
  obtain ⟨b1, b2⟩ := b
  simp⟩
theorem encLP : Enc dLP := enc_list encP.plain depth_P encP.eqv (by decide)
theorem encTP : Enc dTP := enc_tuple encP.plain depth_P encP.eqv (by decide)
theorem any_eqv {β : Type} [DecidableEq β] {enc : β → PyData} (E : Enc enc) (a : β) : ∀ bs : List β, ((bs.map enc).any fun z => PyData.eqv z (enc a)) = decide (a ∈ bs)
  | [] => by simp
  | b :: bs => by
    rw [List.map_cons, List.any_cons, any_eqv E a bs, E.eqv]
    by_cases h : b = a
    · subst h; simp
    · have h2 : ¬ a = b := fun z => h z.symm
      simp [h, h2]
section
variable {X : Cx} {β : Type} [DecidableEq β] {enc : β → PyData} {k : Nat}
def rEqB (K : PySem.W.Frag) (enc : β → PyData) (ne : Bool) : R2 := fun x y H Q => ∃ a b : β, Dp K H x (enc a) ∧ Dp K H y (enc b) ∧ Q (.bl (if ne then !decide (a = b) else decide (a = b))) H
theorem op_eqB (E : Enc enc) (hr : Room k X.A) : OpR X (compareOp .Eq) (rEqB X.K enc false) := by
  intro pins s σ H x y v u Q I rx ry h
  obtain ⟨a, b, ha, hb, q⟩ := h
  obtain ⟨as, r1⟩ := Dp.reads I _ x v ha rx
  obtain ⟨bs, r2⟩ := Dp.reads I _ y u hb ry
  have hu := hr.units
  have := E.depth a
  exact PySem.SeqAt.eq_plain r1 r2 (E.plain a) (E.plain b) (by omega) ⟨.bl _, H, I, rfl, by rw [E.eqv]; exact q⟩
theorem op_neB (E : Enc enc) (hr : Room k X.A) : OpR X (compareOp .NotEq) (rEqB X.K enc true) := by
  intro pins s σ H x y v u Q I rx ry h
  obtain ⟨a, b, ha, hb, q⟩ := h
  obtain ⟨as, r1⟩ := Dp.reads I _ x v ha rx
  obtain ⟨bs, r2⟩ := Dp.reads I _ y u hb ry
  have hu := hr.units
  have := E.depth a
  exact PySem.SeqAt.ne_plain r1 r2 (E.plain a) (E.plain b) (by omega) ⟨.bl _, H, I, rfl, by rw [E.eqv]; exact q⟩
def rInB (K : PySem.W.Frag) (enc : β → PyData) (ne : Bool) : R2 := fun x y H Q => ∃ (a : β) (bs : List β), Dp K H x (enc a) ∧ Dp K H y (.list (bs.map enc)) ∧ Q (.bl (if ne then !decide (a ∈ bs) else decide (a ∈ bs))) H
theorem op_inB (E : Enc enc) (hr : Room k X.A) : OpR X (compareOp .In) (rInB X.K enc false) := by
  intro pins s σ H x y v u Q I rx ry h
  obtain ⟨a, bs, ha, hb, q⟩ := h
  obtain ⟨as, r1⟩ := Dp.reads I _ x v ha rx
  obtain ⟨cs, r2⟩ := Dp.reads I _ y u hb ry
  have hu := hr.units
  have := E.depth a
  exact PySem.SeqAt.in_list_data r2 r1 (plainAll_map E.plain bs) (E.plain a) (by omega) ⟨.bl _, H, I, rfl, by rw [any_eqv E]; exact q⟩
theorem op_notInB (E : Enc enc) (hr : Room k X.A) : OpR X (compareOp .NotIn) (rInB X.K enc true) := by
  intro pins s σ H x y v u Q I rx ry h
  obtain ⟨a, bs, ha, hb, q⟩ := h
  obtain ⟨as, r1⟩ := Dp.reads I _ x v ha rx
  obtain ⟨cs, r2⟩ := Dp.reads I _ y u hb ry
  have hu := hr.units
  have := E.depth a
  exact PySem.SeqAt.notIn_list_data r2 r1 (plainAll_map E.plain bs) (E.plain a) (by omega) ⟨.bl _, H, I, rfl, by rw [any_eqv E]; exact q⟩
end
end WC
/-! t[::-1] of a tuple -/
namespace WC
open PySem PySem.Spec PyProof.Rows L2
section
variable {prog : Program} {w : World} {A : Around} {E : Value → Shared → Prop} {s : Shared}
theorem back_adjust (n : Nat) : Builtin.Slice.sliceAdjust none none (-1) (n : Int) = ((n : Int) - 1, -1) := rfl
theorem back_places (n : Nat) : Builtin.Slice.slicePlaces ((n : Int) - 1) (-1) (-1) = n := by
  unfold Builtin.Slice.slicePlaces
  rw [if_neg (by decide)]
  by_cases h : (n : Int) - 1 > -1
  · rw [if_pos h]
    show ((((n : Int) - 1) - (-1) - 1) / 1 + 1).toNat = n
    rw [Int.ediv_one]
    omega
  · rw [if_neg h]
    show (0 : Int).toNat = n
    omega
theorem back_applied {sl : Addr} {vs : Value} {n : Nat} {Q : Int × Int × Nat → Shared → Prop} (hs : s.heap.IsSliceOf sl .none .none vs) (ps : IsPart vs (some (-1))) (h : Q ((n : Int) - 1, -1, n) s) :
    wpAny (model prog w) A (Builtin.Slice.sliceApplied (.ref sl) (pure (n : Int))) Q E s := by
  obtain ⟨os, hos, hcs, hds⟩ := id hs
  unfold Builtin.Slice.sliceApplied Builtin.Slice.sliceFields
  refine wpAny_bind (wpAny_bind (wpAny_field hos hds (x := .none) rfl (wpAny_bind (wpAny_field hos hds (x := .none) rfl (wpAny_bind (wpAny_field hos hds (x := vs) rfl (wpAny_pure ?_)))))))
  refine wpAny_bind (HT.slicePart_ ps ?_)
  show wpAny _ _ (if ((-1 : Int) == 0) = true then _ else _) _ _ s
  rw [if_neg (by decide)]
  refine wpAny_bind (slicePart_none (wpAny_bind (slicePart_none (wpAny_bind (wpAny_pure ?_)))))
  show wpAny _ _ (match Builtin.Slice.sliceAdjust none none (-1) (n : Int) with | (lo, hi) => pure (lo, (-1 : Int), Builtin.Slice.slicePlaces lo hi (-1))) _ _ s
  rw [back_adjust]
  show wpAny _ _ (pure ((n : Int) - 1, (-1 : Int), Builtin.Slice.slicePlaces ((n : Int) - 1) (-1) (-1))) _ _ s
  rw [back_places]
  exact wpAny_pure h
theorem back_pick (xs : Array Value) : ((List.range xs.size).filterMap fun (m : Nat) => xs[(((xs.size : Nat) : Int) - 1 + (m : Int) * (-1)).toNat]?).toArray = xs.toList.reverse.toArray := by
  have e : ((List.range xs.size).filterMap fun (m : Nat) => xs[(((xs.size : Nat) : Int) - 1 + (m : Int) * (-1)).toNat]?) = (List.range xs.size).filterMap fun m => xs[xs.size - 1 - m]? := by
    congr 1
    funext m
    by_cases hm : m < xs.size
    · rw [show (((xs.size : Nat) : Int) - 1 + (m : Int) * (-1)).toNat = xs.size - 1 - m by omega]
    · rw [show (((xs.size : Nat) : Int) - 1 + (m : Int) * (-1)).toNat = 0 by omega, show xs.size - 1 - m = 0 by omega]
  have e2 : (List.range xs.size).filterMap (fun m => xs[xs.size - 1 - m]?) = (((List.range xs.size).map fun k => xs.size - 1 - k)).filterMap (fun k => xs[k]?) := by
    rw [List.filterMap_map]
    rfl
  rw [e, e2, PySem.W.krv_range, List.filterMap_reverse, PySem.W.krv_all]
theorem getItem_tuple_back {t sl : Addr} {items : Array Value} {vs : Value} {Q : Value → Shared → Prop} (ht : IsTup s.heap t items) (hs : s.heap.IsSliceOf sl .none .none vs) (ps : IsPart vs (some (-1)))
    (h : Q (.ref s.heap.objs.size) { s with heap := s.heap.push { cls := .type "tuple", data := .seq items.toList.reverse.toArray } }) (hsz : items.size ≤ sizeLine) : wpAny (model prog w) A (getItem (.ref t) (.ref sl)) Q E s := by
  have htake : sizeOk (.seq items.toList.reverse.toArray) := by
    show items.toList.reverse.toArray.size ≤ sizeLine
    rw [List.size_toArray, List.length_reverse, Array.length_toList]
    exact hsz
  obtain ⟨os, hos, hcs, hds⟩ := id hs
  have hTs : s.TypeIs (.ref sl) "slice" := ⟨os, hos, hcs⟩
  unfold getItem
  try with_reducible refine wpAny_holding ?_
  first | refine wpAny_bind (wpAny_pure ?_) | skip
  refine wpAny_bind (wpAny_sequenceKey ht.typeIs (by decide) ?_)
  refine wpAny_bind (wpAny_callSpecial?_slot (name := Str.ofString "__getitem__") ht.typeIs PyProof.Rows.slot_tuple_getitem
    (wpAny_call_entry PyProof.Rows.slot_tuple_getitem ht.typeIs PyProof.Rows.entry_tuple_getitem ?_ (PyProof.Rows.args_tuple_getitem _ _)))
  show wpAny _ _ (Builtin.Tuple.tupleItemsOf (.ref t) >>= _) _ _ s
  refine wpAny_bind (PyProof.Rows.tupleItemsOf_ ht ?_)
  refine wpAny_bind (wpAny_typeOf hTs ?_)
  rw [if_pos (by decide)]
  refine wpAny_bind (back_applied hs ps ?_)
  show wpAny _ _ (if (((items.size : Nat) : Int) - 1 == 0 && (-1 : Int) == 1 && items.size == items.size) = true then _ else _) _ _ s
  rw [if_neg (by simp), back_pick]
  first
    | exact wpAny_bind (m := Builtin.Tuple.tupleExact _) (wpAny_newObj_type (wpAny_pure ⟨_, rfl, wpAny_pure h⟩) htake)
    | exact wpAny_bind (m := Builtin.Tuple.tupleExact _) (wpAny_newObj_type (wpAny_bind (wpAny_pure (wpAny_pure ⟨_, rfl, wpAny_pure h⟩))) htake)
    | exact wpAny_bind (wpAny_bind (m := Builtin.Tuple.tupleExact _) (wpAny_newObj_type (wpAny_pure (wpAny_pure ⟨_, rfl, wpAny_pure h⟩)) htake))
    | exact wpAny_bind (wpAny_bind (m := Builtin.Tuple.tupleExact _) (wpAny_newObj_type (wpAny_pure ⟨_, rfl, wpAny_pure h⟩) htake))
end
def tRevT (K : PySem.W.Frag) (te : TE) : TE := fun σ H Q => te σ H fun x H1 => ∃ a xs, x = .ref a ∧ SqT K H1 a xs ∧ ∀ p, H1 p = none → Q (.ref p) (upd H1 p (.tup xs.reverse))
theorem pe_revT {X : Cx} {te : TE} {e : Expr} {k : Nat} {p1 p2 p3 pos : Pos} (he : PE X e te) : PE X (.Subscript e (.Slice none none (some (.UnaryOp .USub (.Constant (.int 1) k p1) p2)) p3) pos) (tRevT X.K te) := by
  refine ⟨fun pins s σ H Q I h => ?_⟩
  refine Subscript_ (thn (he.run pins s σ H _ I h) fun v s1 ⟨x, H1, I1, r1, q1⟩ => ?_)
  obtain ⟨a, xs, ex, hx, q⟩ := q1
  subst ex
  cases r1
  have hst : PO X (some (.UnaryOp .USub (.Constant (.int 1) k p1) p2)) (tPart (tUn (rU fun i => .int (-i)) (tC (.int 1)))) := po_some (pe_un un_neg pe_int)
  refine wpAny_Slice (thn (po_none.run pins s1 σ H1 (fun o H2 => o = none ∧ H2 = H1) I1 ⟨rfl, rfl⟩) fun vl s2 ⟨l, H2, I2, pl, el, e2⟩ => ?_)
  subst el e2
  refine thn (po_none.run pins s2 σ H2 (fun o H3 => o = none ∧ H3 = H2) I2 ⟨rfl, rfl⟩) fun vu s3 ⟨u, H3, I3, pu, eu, e3⟩ => ?_
  subst eu e3
  refine thn (hst.run pins s3 σ H3 (fun o H4 => o = some (-1) ∧ H4 = H3) I3 ⟨1, rfl, -1, rfl, rfl, rfl⟩) fun vs s4 ⟨o, H4, I4, ps, eo, e4⟩ => ?_
  subst eo e4
  have I5 : Inv X pins σ H4 { s4 with heap := s4.heap.push { cls := .type "slice", data := .fields #[vl, vu, vs] } } := I4.kept (t' := s4.toks) fun b ob q => Heap.get?_push_of_some _ q
  obtain ⟨its, r, ht, hz⟩ := I5.tuple hx
  have hlen := r.length
  cases pl
  cases pu
  show wpAny (model X.prog X.w) X.A (subscriptTail e (.Slice none none (some (.UnaryOp .USub (.Constant (.int 1) k p1) p2)) p3) (.ref a) (.ref s4.heap.objs.size)) (EP X pins σ Q) X.xe { s4 with heap := s4.heap.push { cls := .type "slice", data := .fields #[.none, .none, vs] } }
  refine tail_any (ops := [.ref a, .ref s4.heap.objs.size]) ht.typeIs (PyProof.Rows.slot_tuple_getitem.lookup) ?_ (by with_unfolding_all rfl)
  refine getItem_tuple_back ht (Heap.IsSliceOf.new _ .none .none vs) ps ?_ (by rw [List.size_toArray]; omega)
  refine ⟨.ref _, _, I5.laid (t' := s4.toks) (o := .tup xs.reverse) (fun b ob q => Heap.get?_push_of_some _ q) (Nat.le_refl _) ?_, rfl, q _ (I5.hok.fresh (Nat.le_refl _))⟩
  exact ⟨by rw [List.length_reverse]; exact hz, its.reverse, r.reverse, ⟨_, Heap.get?_push_size _ rfl, rfl, 0, by simp⟩⟩
end WC
/-! further rules: tuples whose object is known, their methods; dict.update; a dict locked for good -/
namespace L2
open PySem PySem.Spec PyProof.Rows
/-- a tuple of ours, its own object known -/
def TupK (H : Hp) (a : Addr) (xs : List V) : Prop := ∃ o : Obj, H a = some (.frz o (.tup xs)) ∧ o.cls = .type "tuple" ∧ o.dict = none
theorem TupK.sqt {K : PySem.W.Frag} {H : Hp} {a : Addr} {xs : List V} (h : TupK H a xs) : SqT K H a xs := let ⟨o, e, _⟩ := h; .inl (.inr ⟨o, e⟩)
theorem TupK.same {H H' : Hp} {a : Addr} {xs : List V} (h : TupK H a xs) (s : Same H H') : TupK H' a xs := let ⟨o, e, q⟩ := h; ⟨o, s _ _ e, q⟩
theorem TupK.but {H H' : Hp} {a b : Addr} {xs : List V} (h : TupK H a xs) (B : Box H b) (s : But b H H') : TupK H' a xs := by
  obtain ⟨o, e, q⟩ := h
  obtain ⟨i, j, k, hb⟩ := B
  refine ⟨o, s _ _ (fun z => ?_) e, q⟩
  subst z
  rw [hb] at e
  cases e
section
variable {X : Cx} {pins : List (Addr × Obj)} {σ : St} {H : Hp} {s : Shared}
theorem Inv.newT {xs : List V} {its : List Value} (I : Inv X pins σ H s) (r : Vals xs its) (hz : xs.length ≤ sizeLine) :
    ∃ o : Obj, o.cls = .type "tuple" ∧ o.dict = none ∧ Inv X pins σ (upd H s.heap.objs.size (.frz o (.tup xs))) { s with heap := s.heap.push { cls := .type "tuple", data := .seq its.toArray } } := by
  refine ⟨{ cls := .type "tuple", data := .seq its.toArray }, rfl, rfl, I.laid (t' := s.toks) (fun _ _ e => Heap.get?_push_of_some _ e) (Nat.le_refl _) ?_⟩
  exact ⟨Heap.get?_push_size _ rfl, hz, its, r, IsTup.new _ _⟩
/-- what is made: a new tuple, its object known -/
def NewT (H : Hp) (Q : VK) (xs : List V) : Prop := ∀ (p : Addr) (o : Obj), H p = none → o.cls = .type "tuple" → o.dict = none → Q (.ref p) (upd H p (.frz o (.tup xs)))
theorem NewT.mk {Q : VK} {xs : List V} (h : ∀ p H', Same H H' → TupK H' p xs → Q (.ref p) H') : NewT H Q xs := fun p o hp h1 h2 => h p _ (same_new hp) ⟨o, upd_same, h1, h2⟩
theorem call_tupleF : CallR X (.type "tuple") (fun xs H Q => ∃ p ys, xs = [.ref p] ∧ SqL X.K H p ys ∧ NewT H Q ys) := by
  intro pins s σ H xs us Q I r h
  obtain ⟨p, ys, rfl, hq, q⟩ := h
  obtain ⟨u, rfl, rx⟩ := vals1 r
  cases rx
  obtain ⟨its, r', pl, hz⟩ := I.list hq
  have hlen := r'.length
  refine call_tuple_list pl.isList (fun h' kp => ?_) (by simp only [List.size_toArray] <;> omega)
  have J : Inv X pins σ H { s with heap := h' } := I.kept (t' := s.toks) kp
  obtain ⟨o, h1, h2, J2⟩ := J.newT r' hz
  exact ⟨.ref h'.objs.size, _, J2, rfl, q _ o (J.hok.fresh (Nat.le_refl _)) h1 h2⟩
def rSlF (K : PySem.W.Frag) : V → Option Int → Option Int → Hp → VK → Prop := fun x lo hi H Q => ∃ a xs, x = .ref a ∧ SqT K H a xs ∧
  (HT.sIx xs.length 0 lo = 0 ∧ HT.sIx xs.length xs.length hi = xs.length → Q (.ref a) H) ∧ (¬ (HT.sIx xs.length 0 lo = 0 ∧ HT.sIx xs.length xs.length hi = xs.length) → NewT H Q (cutV xs lo hi))
theorem sl_tupF : SlR X (rSlF X.K) := by
  intro pins s σ H x v vl vu lo hi sl Q I rx hs pl pu h
  obtain ⟨a, xs, rfl, hx, q1, q2⟩ := h
  cases rx
  obtain ⟨its, r, ht, hz⟩ := I.tuple hx
  have hl : its.toArray.size = xs.length := by rw [List.size_toArray]; exact r.length.symm
  refine ⟨"tuple", _, PyProof.Rows.slot_tuple_getitem.lookup, ht.typeIs, ?_⟩
  by_cases hw : HT.sIx xs.length 0 lo = 0 ∧ HT.sIx xs.length xs.length hi = xs.length
  · exact getItem_tuple_whole ht hs pl pu (by rw [hl]; exact hw) ⟨.ref a, H, I, rfl, q1 hw⟩
  · refine HT.getItem_tuple_cut ht hs pl pu (by rw [hl]; exact hw) ?_ (by rw [hl]; exact hz)
    rw [hl]
    obtain ⟨o, h1, h2, J⟩ := I.newT (xs := cutV xs lo hi) ((r.drop (HT.sIx xs.length 0 lo)).take (HT.sIx xs.length xs.length hi - HT.sIx xs.length 0 lo)) (Nat.le_trans (cutV_length xs lo hi) hz)
    exact ⟨.ref s.heap.objs.size, _, J, rfl, q2 hw _ o (I.hok.fresh (Nat.le_refl _)) h1 h2⟩
def rCatF (K : PySem.W.Frag) : R2 := fun x y H Q => ∃ a b xs ys, x = .ref a ∧ y = .ref b ∧ SqT K H a xs ∧ SqT K H b ys ∧ xs.length + ys.length ≤ sizeLine ∧
  (xs = [] → Q (.ref b) H) ∧ (xs ≠ [] → ys = [] → Q (.ref a) H) ∧ (xs ≠ [] → ys ≠ [] → NewT H Q (xs ++ ys))
theorem op_catF : OpR X (binaryOp .Add) (rCatF X.K) := by
  intro pins s σ H x y v u Q I rx ry h
  obtain ⟨a, b, xs, ys, rfl, rfl, ha, hb, hz, q0, q1, q2⟩ := h
  cases rx
  cases ry
  obtain ⟨its, r1, p1, _⟩ := I.tuple ha
  obtain ⟨its2, r2, p2, _⟩ := I.tuple hb
  by_cases hx : xs = []
  · subst hx
    cases r1
    exact cat_tup0 p1 p2 ⟨.ref b, H, I, rfl, q0 rfl⟩
  · refine HT.cat_tup p1 p2 (fun z => hx (r1.nil_iff.mp z)) (fun z => ⟨.ref a, H, I, rfl, q1 hx (r2.nil_iff.mp z)⟩) (fun z => ?_) (by rw [← r1.length, ← r2.length]; exact hz)
    obtain ⟨o, h1, h2, J⟩ := I.newT (r1.append r2) (by rw [List.length_append]; exact hz)
    exact ⟨.ref s.heap.objs.size, _, J, rfl, q2 hx (fun w => z (r2.nil_iff.mpr w)) _ o (I.hok.fresh (Nat.le_refl _)) h1 h2⟩
theorem pe_revF {te : TE} {e : Expr} {k : Nat} {p1 p2 p3 pos : Pos} (he : PE X e te) : PE X (.Subscript e (.Slice none none (some (.UnaryOp .USub (.Constant (.int 1) k p1) p2)) p3) pos)
    (fun σ H Q => te σ H fun x H1 => ∃ a xs, x = .ref a ∧ SqT X.K H1 a xs ∧ NewT H1 Q xs.reverse) := by
  refine ⟨fun pins s σ H Q I h => ?_⟩
  refine Subscript_ (thn (he.run pins s σ H _ I h) fun v s1 ⟨x, H1, I1, r1, a, xs, ex, hx, q⟩ => ?_)
  subst ex
  cases r1
  have hst : PO X (some (.UnaryOp .USub (.Constant (.int 1) k p1) p2)) (tPart (tUn (rU fun i => .int (-i)) (tC (.int 1)))) := po_some (pe_un un_neg pe_int)
  refine wpAny_Slice (thn (po_none.run pins s1 σ H1 (fun o H2 => o = none ∧ H2 = H1) I1 ⟨rfl, rfl⟩) fun vl s2 ⟨l, H2, I2, pl, el, e2⟩ => ?_)
  subst el e2
  refine thn (po_none.run pins s2 σ H2 (fun o H3 => o = none ∧ H3 = H2) I2 ⟨rfl, rfl⟩) fun vu s3 ⟨u, H3, I3, pu, eu, e3⟩ => ?_
  subst eu e3
  refine thn (hst.run pins s3 σ H3 (fun o H4 => o = some (-1) ∧ H4 = H3) I3 ⟨1, rfl, -1, rfl, rfl, rfl⟩) fun vs s4 ⟨o, H4, I4, ps, eo, e4⟩ => ?_
  subst eo e4
  have I5 : Inv X pins σ H4 { s4 with heap := s4.heap.push { cls := .type "slice", data := .fields #[vl, vu, vs] } } := I4.kept (t' := s4.toks) fun b ob q => Heap.get?_push_of_some _ q
  obtain ⟨its, r, ht, hz⟩ := I5.tuple hx
  have hlen := r.length
  cases pl
  cases pu
  show wpAny (model X.prog X.w) X.A (subscriptTail e (.Slice none none (some (.UnaryOp .USub (.Constant (.int 1) k p1) p2)) p3) (.ref a) (.ref s4.heap.objs.size)) (EP X pins σ Q) X.xe { s4 with heap := s4.heap.push { cls := .type "slice", data := .fields #[.none, .none, vs] } }
  refine tail_any (ops := [.ref a, .ref s4.heap.objs.size]) ht.typeIs (PyProof.Rows.slot_tuple_getitem.lookup) ?_ (by with_unfolding_all rfl)
  refine WC.getItem_tuple_back ht (Heap.IsSliceOf.new _ .none .none vs) ps ?_ (by rw [List.size_toArray]; omega)
  obtain ⟨ob, h1, h2, J⟩ := I5.newT r.reverse (by rw [List.length_reverse]; exact hz)
  exact ⟨.ref _, _, J, rfl, q _ ob (I5.hok.fresh (Nat.le_refl _)) h1 h2⟩
/-- a method of such a tuple -/
def tTM (r : V → List V → Hp → VK → Prop) (to ta : TE) : TE := fun σ H Q => to σ H fun x H1 => (∃ p xs, x = .ref p ∧ TupK H1 p xs) ∧ ta σ H1 fun y H2 => r x [y] H2 Q
theorem pe_tm {o e : Expr} {to ta : TE} {name : Str} {apos cpos : Pos} {id : String} {r : V → List V → Hp → VK → Prop} (slot : Slot "tuple" name id) (hty : typeOf (.builtin id) = pure (.type "method_descriptor")) (hm : MtR X id r)
    (ho : PE X o to) (he : PE X e ta) (m : M1 X o name apos e cpos) : PE X (.Call (.Attribute o name apos) [e] [] cpos) (tTM r to ta) := by
  refine ⟨fun pins s σ H Q I h => ?_⟩
  refine wpAny_Call_method m.base m.few m.line PySem.F.plainAttrs_tuple slot hty (thn (ho.run pins s σ H _ I h) fun u s1 ⟨x, H1, I1, rx, ⟨p, xs, ex, ob, hp, h1, h2⟩, q1⟩ => ?_)
  subst ex
  obtain rfl : u = Value.ref p := rx
  obtain ⟨hg, _⟩ := I1.hok p _ hp
  refine ⟨⟨ob, hg, h1⟩, fun a z => by cases z; exact ⟨ob, hg, h2⟩, ?_⟩
  rw [m.trees]
  exact Calls.callWith_builtin rfl (Calls.evalArgs_plain (Calls.spliced_cons (thn (he.run pins s1 σ H1 _ I1 q1) fun w s2 ⟨y, H2, I2, ry, q2⟩ =>
    Calls.spliced_nil (hm pins s2 σ H2 (.ref p) [y] (.ref p) [w] Q I2 rfl (.cons ry .nil) q2))))
/-- d.update(o) -/
def tDUpd (to ta : TE) : TE := fun σ H Q => to σ H fun x H1 => ∃ d, x = .ref d ∧ IsD H1 d ∧ ta σ H1 fun y H2 => ∃ (b : Addr) (kvs more : List (Key × V)), y = .ref b ∧ d ≠ b ∧ H2 d = some (.dK kvs) ∧ Rd H2 b (.dK more) ∧ kvs.length + more.length ≤ sizeLine ∧
  Q .non (upd H2 d (.dK (mergeK kvs more)))
theorem pe_dupd {o e : Expr} {to ta : TE} {apos cpos : Pos} (ho : PE X o to) (he : PE X e ta) (m : M1 X o "update" apos e cpos) : PE X (.Call (.Attribute o "update" apos) [e] [] cpos) (tDUpd to ta) := by
  refine ⟨fun pins s σ H Q I h => ?_⟩
  refine wpAny_Call_method m.base m.few m.line PySem.F.plainAttrs_dict PySem.F.slot_dict_update PySem.F.type_dict_update (thn (ho.run pins s σ H _ I h) fun u s1 ⟨x, H1, I1, rx, d, ex, isd, q1⟩ => ?_)
  subst ex
  obtain rfl : u = Value.ref d := rx
  obtain ⟨t1, t2, _⟩ := isD_at I1 isd
  refine ⟨t1, t2, ?_⟩
  rw [m.trees]
  refine Calls.callWith_builtin rfl (Calls.evalArgs_plain (Calls.spliced_cons (thn (he.run pins s1 σ H1 _ I1 q1) fun w s2 ⟨y, H2, I2, ry, b, kvs, more, ey, ne, hd, hb, hz, q2⟩ => Calls.spliced_nil ?_)))
  subst ey
  obtain rfl : w = Value.ref b := ry
  obtain ⟨_, hsd, vs, rel, dd⟩ := dk_of I2.hok hd
  obtain ⟨_, hsb, ws, rel2, db⟩ := dk_rd I2.hok hb
  refine call_meetsIn PySem.F.slot_dict_update dd.typeIs PySem.F.entry_dict_update (PySem.F.args_dict_update_2 _ _) (PySem.meets_dict_update (mixKind X.prog X.w) d b ne hsb) ⟨vs, ws, dd, db, ?_, fun h' dm _ sb => ?_⟩
  · rw [← rel.length, ← rel2.length]
    exact hz
  · have ex : ∃ q, h'.get? d = some q := let ⟨q, _, _, hq, _⟩ := dm; ⟨q, hq⟩
    have hl : (mergeK kvs more).length ≤ sizeLine := Nat.le_trans (length_mergeK more kvs) hz
    exact ⟨.non, _, d_write (t' := s2.toks) I2 (by rw [hd]; exact True.intro) sb ex (dk_new hl hsd (KV.merge rel2 rel) dm), rfl, q2⟩
/-- the things at these places locked for good, one by one -/
def frzAll (t : TE) : List Addr → TE
  | [] => t
  | d :: ds => fun σ H Q => ∃ u, H d = some u ∧ Mut (some u) ∧ ∀ od, frzAll t ds σ (upd H d (.frz od u)) Q
def tFrz (t : TE) : TE := fun σ H Q => ∃ ds, frzAll t ds σ H Q
theorem frz_run {e : Expr} {t : TE} (h : PE X e t) : ∀ (ds : List Addr) (H : Hp) (Q : VK), Inv X pins σ H s → frzAll t ds σ H Q → wpAny (model X.prog X.w) X.A (eval e X.env) (EP X pins σ Q) X.xe s
  | [], H, Q, I, hw => h.run pins s σ H Q I hw
  | d :: ds, H, Q, I, hw => by
    obtain ⟨u, hd, mu, hw⟩ := hw
    obtain ⟨od, J⟩ := I.lock hd mu
    exact frz_run h ds _ Q J (hw od)
theorem pe_frz {e : Expr} {t : TE} (h : PE X e t) : PE X e (tFrz t) := ⟨fun pins s σ H Q I ⟨ds, hw⟩ => frz_run h ds H Q I hw⟩
theorem frzAll_of {t : TE} {σ : St} {Q : VK} (f : Addr → HO) : ∀ (ds : List Addr) (H : Hp), ds.Nodup → (∀ d ∈ ds, H d = some (f d) ∧ Mut (some (f d))) →
    (∀ H', (∀ d ∈ ds, ∃ od, H' d = some (.frz od (f d))) → (∀ b, b ∉ ds → H' b = H b) → t σ H' Q) → frzAll t ds σ H Q
  | [], H, _, _, k => k H (fun d hd => absurd hd List.not_mem_nil) fun _ _ => rfl
  | d :: ds, H, nd, hf, k => by
    obtain ⟨hn, nd'⟩ := List.nodup_cons.mp nd
    obtain ⟨e, mu⟩ := hf d List.mem_cons_self
    refine ⟨f d, e, mu, fun od => frzAll_of f ds _ nd' (fun c hc => ?_) fun H' h1 h2 => ?_⟩
    · have ne : c ≠ d := fun z => hn (z ▸ hc)
      rw [upd_ne ne]
      exact hf c (List.mem_cons_of_mem _ hc)
    · refine k H' (fun c hc => ?_) fun b hb => ?_
      · rcases List.mem_cons.mp hc with z | z
        · subst z
          exact ⟨od, by rw [h2 _ hn]; exact upd_same⟩
        · exact h1 c z
      · rw [h2 b (fun z => hb (List.mem_cons_of_mem _ z)), upd_ne (fun z => hb (by rw [z]; exact List.mem_cons_self))]
end
end L2
/-! comprehensions whose items are data -/
namespace L2
open PySem PySem.Spec PyProof.Rows
section
variable {K : PySem.W.Frag} {H H' : Hp}
mutual
/-- no list in it -/
def lless : PyData → Bool
  | .list _ => false
  | .tuple ds => llessAll ds
  | _ => true
def llessAll : List PyData → Bool
  | [] => true
  | d :: ds => lless d && llessAll ds
end
theorem sqt_mutL {D a : Addr} {zs xs : List V} {o : HO} (hD : H D = some (.lst zs)) (h : SqT K H a xs) : SqT K (upd H D o) a xs := by
  have ne : ∀ u, H a = some u → u ≠ .lst zs → a ≠ D := fun u e n z => by
    subst z
    rw [hD] at e
    cases e
    exact n rfl
  rcases h with (h | ⟨ob, h⟩) | h
  · exact .inl (.inl (by rw [upd_ne (ne _ h (by intro q; cases q))]; exact h))
  · exact .inl (.inr ⟨ob, by rw [upd_ne (ne _ h (by intro q; cases q))]; exact h⟩)
  · exact .inr h
mutual
theorem Dp.mutL {D : Addr} {zs : List V} {o : HO} (hD : H D = some (.lst zs)) : ∀ (d : PyData) {v : V}, lless d = true → Dp K H v d → Dp K (upd H D o) v d
  | .none, _, _, h => by cases h; exact .non
  | .bool b, _, _, h => by cases h; exact .bl b
  | .int i, _, _, h => by cases h; exact .int i
  | .str x, _, _, h => by cases h; exact .str x
  | .list ds, _, n, _ => by simp [lless] at n
  | .tuple ds, _, n, h => by
    cases h with
    | tup h r => exact .tup (sqt_mutL hD h) (DpAll.mutL hD ds (by simpa [lless] using n) r)
  | .dict _, _, _, h => by cases h
theorem DpAll.mutL {D : Addr} {zs : List V} {o : HO} (hD : H D = some (.lst zs)) : ∀ (ds : List PyData) {vs : List V}, llessAll ds = true → DpAll K H vs ds → DpAll K (upd H D o) vs ds
  | [], _, _, h => by cases h; exact .nil
  | d :: ds, _, n, h => by
    have n' : lless d = true ∧ llessAll ds = true := by simpa [llessAll] using n
    cases h with
    | cons h r => exact .cons (Dp.mutL hD d n'.1 h) (DpAll.mutL hD ds n'.2 r)
end
theorem llessAll_of : ∀ {ds : List PyData}, (∀ d ∈ ds, lless d = true) → llessAll ds = true
  | [], _ => rfl
  | d :: ds, h => by
    show (lless d && llessAll ds) = true
    rw [h d List.mem_cons_self, llessAll_of fun e he => h e (List.mem_cons_of_mem _ he)]
    rfl
theorem filterMap_take_succ {α β : Type} {f : α → Option β} {us : List α} {i : Nat} {a : α} (e : us[i]? = some a) : (us.take (i + 1)).filterMap f = (us.take i).filterMap f ++ (f a).toList := by
  rw [List.take_add_one, e, List.filterMap_append]
  cases h : f a <;> simp [h]
/-- a comprehension over a walk: f tells what a thing gives -/
theorem lc_dat {α : Type} {J : It} {G : Hp → Prop} {Y : Nat → Hp → V → Hp → Prop} {g : TG} {tt : TT} {te : TE} {vs : List Nat} {σ : St} {H1 : Hp} {D : Addr} {Qd : Hp → Prop} (us : List α) (f : α → Option PyData) (w : Walk J us.length G Y)
    (hf : ∀ a d, f a = some d → lless d = true) (hz : us.length < sizeLine) (hD : H1 D = none) (hG : ∀ H, Same H1 H → G H)
    (hs : ∀ i a x H H' (T : VK) (N : Hp → Prop), us[i]? = some a → Same H1 H → Y i H x H' → (∀ y H4 d, Same H H4 → f a = some d → Dp K H4 y d → T y H4) → (∀ H4, Same H H4 → f a = none → N H4) →
      g x (wipe σ vs) H' fun σ2 H2 => wipe σ2 vs = wipe σ vs ∧ tt σ2 H2 fun b H3 => if b = true then te σ2 H3 T else N H3)
    (hd : ∀ H zs, Same H1 H → H D = some (.lst zs) → DpAll K H zs (us.filterMap f) → Qd H) :
    ∃ W : Nat → Nat → Hp → Prop, (∃ m, W 0 m (upd H1 D (.lst []))) ∧ ∀ i m H, W i m H →
      (J.stop i H ∧ Qd H) ∨ (J.go i H ∧ ∃ Nx : Hp → Prop, (∀ H', Nx H' → ∃ m', m' < m ∧ W (i + 1) m' H') ∧ ∀ x H', J.yld i H x H' → g x (wipe σ vs) H' fun σ2 H2 => wipe σ2 vs = wipe σ vs ∧ tt σ2 H2 fun b H3 =>
        if b = true then te σ2 H3 fun y H4 => ∃ acc, H4 D = some (.lst acc) ∧ acc.length < sizeLine ∧ Nx (upd H4 D (.lst (acc ++ [y]))) else Nx H3) := by
  have all : ∀ i, llessAll ((us.take i).filterMap f) = true := fun i => llessAll_of fun d hd => by
    obtain ⟨a, _, e⟩ := List.mem_filterMap.mp hd
    exact hf a d e
  refine lc_it w (fun i H => Same H1 H ∧ ∃ zs, H D = some (.lst zs) ∧ DpAll K H zs ((us.take i).filterMap f)) ⟨same_new hD, [], upd_same, .nil⟩ (fun i H _ p => hG H p.1) (fun i x H H' hi ⟨s1, zs, hl, hall⟩ y => ?_) fun H ⟨s1, zs, hl, hall⟩ => hd H zs s1 hl (by rw [List.take_length] at hall; exact hall)
  have e : us[i]? = some us[i] := List.getElem?_eq_getElem hi
  refine hs i us[i] x H H' _ _ e s1 y (fun v H4 d s4 ef hv => ?_) fun H4 s4 ef => ?_
  · have h4 := s4 _ _ hl
    have hlen : zs.length < sizeLine := by
      have q := hall.length
      have q2 := List.length_filterMap_le f (us.take i)
      rw [List.length_take] at q2
      omega
    refine ⟨zs, h4, hlen, (s1.trans s4).mut hD, zs ++ [v], upd_same, ?_⟩
    rw [filterMap_take_succ e, ef]
    exact (DpAll.mutL h4 _ (all i) (DpAll.same s4 _ hall)).append (.cons (Dp.mutL h4 d (hf _ d ef) hv) .nil)
  · refine ⟨s1.trans s4, zs, s4 _ _ hl, ?_⟩
    rw [filterMap_take_succ e, ef]
    simpa using DpAll.same s4 _ hall
/-- a dict comprehension over a walk: keys texts, values flat -/
theorem dc_dat {α : Type} {J : It} {G : Hp → Prop} {Y : Nat → Hp → V → Hp → Prop} {g : TG} {tt : TT} {tk tv : TE} {vs : List Nat} {σ : St} {H1 : Hp} {D : Addr} {Qd : Hp → Prop} (us : List α) (kf : α → Str) (vf : α → V) (w : Walk J us.length G Y)
    (hz : us.length < sizeLine) (hD : H1 D = none) (hG : ∀ H, Same H1 H → G H)
    (hs : ∀ i a x H H' (T : V → V → Hp → Prop) (N : Hp → Prop), us[i]? = some a → Same H1 H → Y i H x H' → (∀ H4, Same H H4 → T (.str (kf a)) (vf a) H4) →
      g x (wipe σ vs) H' fun σ2 H2 => wipe σ2 vs = wipe σ vs ∧ tt σ2 H2 fun b H3 => if b = true then tk σ2 H3 fun y H4 => tv σ2 H4 fun z H5 => T y z H5 else N H3)
    (hd : ∀ H, Same H1 H → H D = some (.dK (us.foldl (fun acc a => putK acc (.inr (kf a)) (vf a)) [])) → Qd H) :
    ∃ W : Nat → Nat → Hp → Prop, (∃ m, W 0 m (upd H1 D (.dK []))) ∧ ∀ i m H, W i m H →
      (J.stop i H ∧ Qd H) ∨ (J.go i H ∧ ∃ Nx : Hp → Prop, (∀ H', Nx H' → ∃ m', m' < m ∧ W (i + 1) m' H') ∧ ∀ x H', J.yld i H x H' → g x (wipe σ vs) H' fun σ2 H2 => wipe σ2 vs = wipe σ vs ∧ tt σ2 H2 fun b H3 =>
        if b = true then tk σ2 H3 fun y H4 => tv σ2 H4 fun z H5 => ∃ kvs k, y = kV k ∧ H5 D = some (.dK kvs) ∧ kvs.length < sizeLine ∧ Nx (upd H5 D (.dK (putK kvs k z))) else Nx H3) := by
  have ln : ∀ i, ((us.take i).foldl (fun acc a => putK acc (.inr (kf a)) (vf a)) ([] : List (Key × V))).length ≤ i := fun i => by
    have key : ∀ (l : List α) (acc : List (Key × V)), (l.foldl (fun acc a => putK acc (.inr (kf a)) (vf a)) acc).length ≤ acc.length + l.length := fun l => by
      induction l with
      | nil => intro acc; simp
      | cons a l ih =>
        intro acc
        have h1 := ih (putK acc (.inr (kf a)) (vf a))
        have h2 := length_putK acc (.inr (kf a) : Key) (vf a)
        rw [List.foldl_cons, List.length_cons]
        omega
    have := key (us.take i) []
    rw [List.length_take] at this
    simp at this
    omega
  refine ⟨fun i m H => m = us.length - i ∧ i ≤ us.length ∧ Same H1 H ∧ H D = some (.dK ((us.take i).foldl (fun acc a => putK acc (.inr (kf a)) (vf a)) [])), ⟨us.length, by simp, Nat.zero_le _, same_new hD, upd_same⟩, ?_⟩
  rintro i m H ⟨rfl, hi, s1, hl⟩
  by_cases hlt : i < us.length
  · refine .inr ⟨w.goes i H hlt (hG H s1), _, fun H' p' => ⟨us.length - (i + 1), by omega, rfl, hlt, p'⟩, fun x H' y => ?_⟩
    have e : us[i]? = some us[i] := List.getElem?_eq_getElem hlt
    refine hs i us[i] x H H' _ _ e s1 (w.yields i H x H' hlt (hG H s1) y) fun H4 s4 => ?_
    refine ⟨_, .inr (kf us[i]), rfl, s4 _ _ hl, by have := ln i; omega, (s1.trans s4).mut hD, ?_⟩
    rw [upd_same, List.take_add_one, e, List.foldl_append]
    rfl
  · have e : i = us.length := by omega
    subst e
    rw [List.take_length] at hl
    exact .inl ⟨w.stops H (hG H s1), hd H s1 hl⟩
/-! what such a dict holds -/
theorem putK_absent {κ : Type} [DecidableEq κ] {kvs : List (κ × V)} {k : κ} {v : V} (h : k ∉ kvs.map (·.1)) : putK kvs k v = kvs ++ [(k, v)] := by
  unfold putK
  rw [if_neg]
  intro q
  obtain ⟨p, hp, e⟩ := List.any_eq_true.mp q
  exact h (List.mem_map.mpr ⟨p, hp, of_decide_eq_true e⟩)
theorem foldl_putK {α : Type} (kf : α → Str) (vf : α → V) : ∀ (us : List α) (acc : List (Key × V)), (us.map kf).Nodup → (∀ a ∈ us, (Sum.inr (kf a) : Key) ∉ acc.map (·.1)) →
    us.foldl (fun acc a => putK acc (.inr (kf a)) (vf a)) acc = acc ++ us.map fun a => (.inr (kf a), vf a)
  | [], acc, _, _ => by simp
  | a :: us, acc, nd, h => by
    obtain ⟨hn, nd'⟩ := List.nodup_cons.mp (by simpa using nd : (kf a :: us.map kf).Nodup)
    rw [List.foldl_cons, putK_absent (h a List.mem_cons_self), foldl_putK kf vf us _ nd' fun b hb q => ?_]
    · simp
    · rw [List.map_append, List.mem_append] at q
      rcases q with q | q
      · exact h b (List.mem_cons_of_mem _ hb) q
      · have e : (Sum.inr (kf b) : Key) = .inr (kf a) := by simpa using q
        have e2 : kf b = kf a := Sum.inr.inj e
        rw [← e2] at hn
        exact hn (List.mem_map.mpr ⟨b, hb, rfl⟩)
theorem walkS {K : PySem.W.Frag} {a : Addr} (us : List Str) : Walk (Itt K a) us.length (fun H => SqT K H a (us.map V.str)) (fun i H x H' => H' = H ∧ ∃ u, us[i]? = some u ∧ x = .str u) := by
  have w := walk_tup (K := K) (a := a) (xs := us.map V.str)
  rw [List.length_map] at w
  exact w.mono (fun _ h => h) fun i H x H' _ _ y => ⟨y.1, by have := y.2; rw [List.getElem?_map] at this; obtain ⟨u, h1, h2⟩ := Option.map_eq_some_iff.mp this; exact ⟨u, h1, h2.symm⟩⟩
theorem walkLS {K : PySem.W.Frag} {a : Addr} (us : List Str) : Walk (Itl K a) us.length (fun H => SqL K H a (us.map V.str)) (fun i H x H' => H' = H ∧ ∃ u, us[i]? = some u ∧ x = .str u) := by
  have w := walk_list (K := K) (a := a) (xs := us.map V.str)
  rw [List.length_map] at w
  exact w.mono (fun _ h => h) fun i H x H' _ _ y => ⟨y.1, by have := y.2; rw [List.getElem?_map] at this; obtain ⟨u, h1, h2⟩ := Option.map_eq_some_iff.mp this; exact ⟨u, h1, h2.symm⟩⟩
/-- over a list, a tuple of data -/
theorem walkLD {α : Type} {K : PySem.W.Frag} {a : Addr} {xs : List V} (us : List α) (enc : α → PyData) (h : xs.length = us.length) : Walk (Itl K a) us.length (fun H => SqL K H a xs) (YAt xs) := by
  have w := walk_list (K := K) (a := a) (xs := xs)
  rw [h] at w
  exact w
theorem walkTD {α : Type} {K : PySem.W.Frag} {a : Addr} {xs : List V} (us : List α) (enc : α → PyData) (h : xs.length = us.length) : Walk (Itt K a) us.length (fun H => SqT K H a xs) (YAt xs) := by
  have w := walk_tup (K := K) (a := a) (xs := xs)
  rw [h] at w
  exact w
theorem DpAll.at_map {α : Type} {K : PySem.W.Frag} {H : Hp} {us : List α} {enc : α → PyData} {xs : List V} {i : Nat} {a : α} {x : V} (h : DpAll K H xs (us.map enc)) (e : us[i]? = some a) (ex : xs[i]? = some x) : Dp K H x (enc a) := by
  obtain ⟨d, e2, hd⟩ := h.get ex
  rw [List.getElem?_map, e] at e2
  cases e2
  exact hd
end
end L2
/-! readings, put together -/
namespace WC
open PySem PySem.Spec PyProof.Rows L2
section
variable {K : PySem.W.Frag} {H : Hp} {Q : VK} {p a : Addr} {xs : List V} {v : V} {i j : Int} {g : Str} {us : List Str}
theorem rd_ixT (hp : SqT K H p xs) (e : atI xs i = some v) (k : Q v H) : rIxT K (.ref p) (.int i) H Q := ⟨p, xs, i, v, rfl, rfl, hp, e, k⟩
theorem rd_ixL (hp : SqL K H p xs) (e : atI xs i = some v) (k : Q v H) : rIxL K (.ref p) (.int i) H Q := ⟨p, xs, i, v, rfl, rfl, hp, e, k⟩
theorem rd_in (ha : SqL K H a (us.map V.str) ∨ SqT K H a (us.map V.str)) (k : Q (.bl (decide (g ∈ us))) H) : rIn K false (.str g) (.ref a) H Q :=
  ⟨a, _, rfl, ha, rfl, WC.flat_strs us, by rw [if_neg Bool.false_ne_true, inV_strs]; exact k⟩
theorem rd_nin (ha : SqL K H a (us.map V.str) ∨ SqT K H a (us.map V.str)) (k : Q (.bl (!decide (g ∈ us))) H) : rIn K true (.str g) (.ref a) H Q :=
  ⟨a, _, rfl, ha, rfl, WC.flat_strs us, by rw [if_pos rfl, inV_strs]; exact k⟩
theorem rd_I0 {f : Int → Int → V} (k : Q (f i j) H) : rI0 f (.int i) (.int j) H Q := ⟨i, j, rfl, rfl, k⟩
theorem filterMap_if {α β : Type} (p : α → Bool) (f : α → β) : ∀ us : List α, us.filterMap (fun a => if p a then some (f a) else none) = (us.filter p).map f
  | [] => rfl
  | a :: us => by
    have ih := filterMap_if p f us
    by_cases q : p a = true
    · simp only [List.filterMap_cons, List.filter_cons, q, if_true, List.map_cons, ih]
    · simp only [List.filterMap_cons, List.filter_cons, q, if_false, ih]
      simp
theorem some_if {α β : Type} {p : α → Bool} {f : α → β} {a : α} {d : β} (h : (if p a then some (f a) else none) = some d) : d = f a := by
  by_cases q : p a = true
  · rw [if_pos q] at h
    exact (Option.some.inj h).symm
  · rw [if_neg q] at h
    cases h
theorem dL_filter {e : List Str} {f : Str → Bool} {zs : List V} (h : DpAll K H zs (e.filterMap fun g => if f g then some (PyData.str g) else none)) : DpAll K H zs ((e.filter f).map PyData.str) := by
  rw [filterMap_if] at h
  exact h
/-- sets of texts by lists -/
theorem sz100 {n : Nat} (h : n ≤ 1000) : n < sizeLine := by unfold sizeLine; omega
theorem dP_lless (q : PP) : lless (dP q) = true := rfl
theorem dT_lless (q : List Str) : lless (dT q) = true := by
  show llessAll (q.map PyData.str) = true
  exact llessAll_of fun d hd => by
    obtain ⟨x, _, rfl⟩ := List.mem_map.mp hd
    rfl
/-! slices -/
theorem cut_whole {lo hi : Option Int} (h : HT.sIx xs.length 0 lo = 0 ∧ HT.sIx xs.length xs.length hi = xs.length) : cutV xs lo hi = xs := by
  unfold cutV
  rw [h.1, h.2]
  simp
theorem cut_take (xs : List V) (n : Nat) : cutV xs none (some (n : Int)) = xs.take n := by
  unfold cutV
  rw [HT.sIx_none, HT.sIx_nat, List.drop_zero, Nat.sub_zero]
  by_cases h : n ≤ xs.length
  · rw [Nat.min_eq_left h]
  · rw [Nat.min_eq_right (by omega), List.take_length, List.take_of_length_le (by omega)]
theorem cut_drop (xs : List V) (n : Nat) : cutV xs (some (n : Int)) none = xs.drop n := by
  unfold cutV
  rw [HT.sIx_none, HT.sIx_nat]
  by_cases h : n ≤ xs.length
  · rw [Nat.min_eq_left h, List.take_of_length_le (by rw [List.length_drop]; omega)]
  · rw [Nat.min_eq_right (by omega), List.drop_of_length_le (by omega), List.drop_of_length_le (by omega)]
    simp
theorem cut_last (xs : List V) : cutV xs none (some (-1)) = xs.take (xs.length - 1) := by
  unfold cutV
  rw [HT.sIx_none, List.drop_zero, Nat.sub_zero]
  congr 1
  unfold HT.sIx
  simp
  omega
theorem rd_slA {lo hi : Option Int} (ha : SqT K H a xs) (k : ∀ H' p, Same H H' → SqT K H' p (cutV xs lo hi) → Q (.ref p) H') : rSlA K (.ref a) lo hi H Q :=
  ⟨a, xs, rfl, ha, fun h => k _ _ (fun _ _ h => h) (by rw [cut_whole h]; exact ha), fun _ p hp => k _ _ (same_new hp) (.inl (.inl upd_same))⟩
theorem rd_slF {lo hi : Option Int} (ha : TupK H a xs) (k : ∀ H' p, Same H H' → TupK H' p (cutV xs lo hi) → Q (.ref p) H') : rSlF K (.ref a) lo hi H Q :=
  ⟨a, xs, rfl, ha.sqt, fun h => k _ _ (fun _ _ h => h) (by rw [cut_whole h]; exact ha), fun _ => NewT.mk fun p H' s t => k _ _ s t⟩
theorem rd_catF {b : Addr} {ys : List V} (ha : TupK H a xs) (hb : TupK H b ys) (hz : xs.length + ys.length ≤ sizeLine) (k : ∀ H' p, Same H H' → TupK H' p (xs ++ ys) → Q (.ref p) H') : rCatF K (.ref a) (.ref b) H Q :=
  ⟨a, b, xs, ys, rfl, rfl, ha.sqt, hb.sqt, hz, fun h => k _ _ (fun _ _ h => h) (by rw [h]; exact hb), fun _ h => k _ _ (fun _ _ h => h) (by rw [h, List.append_nil]; exact ha), fun _ _ => NewT.mk fun p H' s t => k _ _ s t⟩
theorem rd_catA {b : Addr} {ys : List V} (ha : SqT K H a xs) (hb : SqT K H b ys) (hz : xs.length + ys.length ≤ sizeLine) (k : ∀ H' p, Same H H' → SqT K H' p (xs ++ ys) → Q (.ref p) H') : rCatA K (.ref a) (.ref b) H Q :=
  ⟨a, b, xs, ys, rfl, rfl, ha, hb, hz, fun h => k _ _ (fun _ _ h => h) (by rw [h]; exact hb), fun _ h => k _ _ (fun _ _ h => h) (by rw [h, List.append_nil]; exact ha), fun _ _ p hp => k _ _ (same_new hp) (.inl (.inl upd_same))⟩
theorem lless_dPs (ps : List PP) : llessAll (ps.map dP) = true := llessAll_of fun d hd => by
  obtain ⟨x, _, rfl⟩ := List.mem_map.mp hd
  rfl
theorem lless_strs (ps : List Str) : llessAll (ps.map PyData.str) = true := llessAll_of fun d hd => by
  obtain ⟨x, _, rfl⟩ := List.mem_map.mp hd
  rfl
/-- a new pair appended -/
theorem app_pair {F t : Addr} {zs : List V} {ps : List PP} {x y : Str} (h2 : H F = some (.lst zs)) (h3 : DpAll K H zs (ps.map dP)) (ht : H t = none) :
    (upd H t (.tup [.str x, .str y])) F = some (.lst zs) ∧ DpAll K (upd (upd H t (.tup [.str x, .str y])) F (.lst (zs ++ [.ref t]))) (zs ++ [.ref t]) ((ps ++ [(x, y)]).map dP) := by
  have h4 : (upd H t (.tup [.str x, .str y])) F = some (.lst zs) := by
    rw [upd_ne (ne_of_none h2 ht)]
    exact h2
  refine ⟨h4, ?_⟩
  have h5 := DpAll.mutL (o := .lst (zs ++ [.ref t])) h4 _ (lless_dPs ps) (DpAll.same (same_new ht) _ h3)
  rw [List.map_append]
  refine h5.append (.cons ?_ .nil)
  refine dP_of (.inl (.inl ?_))
  rw [upd_ne (ne_of_none h2 ht).symm]
  exact upd_same
theorem sz2 : 2 ≤ sizeLine := by unfold sizeLine; omega
theorem drop_get {α : Type} {gs : List α} {i : Nat} {u : α} (eu : gs[i]? = some u) : gs.drop i = u :: gs.drop (i + 1) := by
  obtain ⟨h, e⟩ := List.getElem?_eq_some_iff.mp eu
  rw [← e]
  exact List.drop_eq_getElem_cons h
theorem dec_str (x y : Str) : decide (V.str x = V.str y) = decide (x = y) := decide_eq_decide.mpr ⟨fun h => by cases h; rfl, fun h => by rw [h]⟩
theorem rd_ne {x y : Str} (k : Q (.bl (!decide (x = y))) H) : rNe (.str x) (.str y) H Q := ⟨rfl, by rw [dec_str]; exact k⟩
theorem rd_eq {x y : Str} (k : Q (.bl (decide (x = y))) H) : rEq (.str x) (.str y) H Q := ⟨rfl, by rw [dec_str]; exact k⟩
/-! the same rules, the written part named (within a comprehension it must not hang on the block) -/
theorem op_inK (K : PySem.W.Frag) {X : Cx} (h : X.K = K) : OpR X (compareOp .In) (rIn K false) := h ▸ op_in_seq
theorem op_ninK (K : PySem.W.Frag) {X : Cx} (h : X.K = K) : OpR X (compareOp .NotIn) (rIn K true) := h ▸ op_notIn_seq
theorem op_inBK {β : Type} [DecidableEq β] {enc : β → PyData} {k : Nat} (K : PySem.W.Frag) {X : Cx} (h : X.K = K) (E : Enc enc) (hr : Room k X.A) : OpR X (compareOp .In) (rInB K enc false) := h ▸ op_inB E hr
theorem op_notInBK {β : Type} [DecidableEq β] {enc : β → PyData} {k : Nat} (K : PySem.W.Frag) {X : Cx} (h : X.K = K) (E : Enc enc) (hr : Room k X.A) : OpR X (compareOp .NotIn) (rInB K enc true) := h ▸ op_notInB E hr
theorem mt_tcountK {k : Nat} (K : PySem.W.Frag) {X : Cx} (h : X.K = K) (hr : Room k X.A) : MtR X "tuple.count" (rCntT K) := h ▸ mt_tcountS hr
theorem mt_tindexK (K : PySem.W.Frag) {X : Cx} (h : X.K = K) : MtR X "tuple.index" (rIdxT K) := h ▸ mt_tindexS
/-- a list of ours, of data -/
def LL (K : PySem.W.Frag) (H : Hp) (v : V) (ds : List PyData) : Prop := ∃ (l : Addr) (zs : List V), v = .ref l ∧ H l = some (.lst zs) ∧ DpAll K H zs ds
theorem LL.dp {v : V} {ds : List PyData} (h : LL K H v ds) : Dp K H v (.list ds) := by
  obtain ⟨l, zs, rfl, h1, h2⟩ := h
  exact .lst (SqL.of h1) h2
theorem LL.same {H' : Hp} {v : V} {ds : List PyData} (h : LL K H v ds) (s : Same H H') : LL K H' v ds := by
  obtain ⟨l, zs, rfl, h1, h2⟩ := h
  exact ⟨l, zs, rfl, s _ _ h1, DpAll.same s _ h2⟩
theorem LL.but {H' : Hp} {b : Addr} {v : V} {ds : List PyData} (h : LL K H v ds) (B : Box H b) (s : But b H H') (n : intlessAll ds = true) : LL K H' v ds := by
  obtain ⟨l, zs, rfl, h1, h2⟩ := h
  refine ⟨l, zs, rfl, s _ _ (fun z => ?_) h1, DpAll.but B s _ n h2⟩
  subst z
  obtain ⟨i, j, k, hb⟩ := B
  rw [hb] at h1
  cases h1
  cases ds with
  | nil => cases h2
  | cons d ds =>
    cases h2 with
    | cons h3 _ =>
      cases h3
      simp [intlessAll, intless] at n
theorem LL.len {v : V} {ds : List PyData} {l : Addr} {zs : List V} (h : v = .ref l ∧ H l = some (.lst zs) ∧ DpAll K H zs ds) : zs.length = ds.length := h.2.2.length
theorem rd_cat {x y : V} {ds es : List PyData} (h1 : LL K H x ds) (h2 : LL K H y es) (hz : ds.length + es.length ≤ 10000) (k : ∀ H' v, Same H H' → LL K H' v (ds ++ es) → Q v H') : rCat x y H Q := by
  obtain ⟨l, xs, rfl, a1, a2⟩ := h1
  obtain ⟨b, zs, rfl, b1, b2⟩ := h2
  refine ⟨l, b, xs, zs, rfl, rfl, a1, b1, ?_, fun p hp => k _ _ (same_new hp) ⟨p, _, rfl, upd_same, ?_⟩⟩
  · have e1 := a2.length
    have e2 := b2.length
    unfold sizeLine
    omega
  · exact (DpAll.same (same_new hp) _ a2).append (DpAll.same (same_new hp) _ b2)
theorem filterMap_all {α β : Type} (f : α → β) (us : List α) : us.filterMap (fun a => some (f a)) = us.map f := by
  rw [← List.filterMap_eq_map]
  rfl
theorem bools_of : ∀ {bs : List Bool} {zs : List V}, DpAll K H zs (bs.map PyData.bool) → zs = bs.map V.bl
  | [], _, h => by cases h; rfl
  | b :: bs, _, h => by
    cases h with
    | cons h1 h2 =>
      cases h1
      rw [bools_of h2]
      rfl
theorem bools_fm {α : Type} (f : α → Bool) {us : List α} {zs : List V} (h : DpAll K H zs (us.filterMap fun a => some (PyData.bool (f a)))) : zs = (us.map f).map V.bl := by
  rw [filterMap_all] at h
  exact bools_of (by rw [List.map_map]; exact h)
theorem idxOf_at {α : Type} [DecidableEq α] : ∀ {l : List α} {i : Nat} {a : α}, l.Nodup → l[i]? = some a → l.idxOf a = i
  | [], _, _, _, h => by simp at h
  | b :: l, 0, a, _, h => by
    simp at h
    subst h
    exact List.idxOf_cons_self
  | b :: l, i + 1, a, nd, h => by
    obtain ⟨hn, nd'⟩ := List.nodup_cons.mp nd
    have h' : l[i]? = some a := by simpa using h
    have ne : b ≠ a := fun z => hn (by rw [z]; exact List.mem_iff_getElem?.mpr ⟨i, h'⟩)
    have e : (b == a) = false := by simpa using ne
    rw [List.idxOf_cons, e, cond_false, idxOf_at nd' h']
end
end WC
namespace WC
open PySem PySem.Spec PyProof.Rows L2
def Ev.seek (e : Ev) (g : Str) : Bool := decide (g ∈ e.guests) && (!decide (g ∈ e.lost) && decide (g ∈ e.rack))
def Ev.seekers (e : Ev) : List Str := e.guests.filter e.seek
section
variable {P : Program} {w : World} {K : PySem.W.Frag} {mg : Str → Option Value} {base : Heap}
/-! ### is_seeker -/
def sp_is_seeker (K : PySem.W.Frag) : Sp := fun vs H Q _ => ∃ (ev : V) (e : Ev) (g : Str), vs = [ev, .str g] ∧ Dp K H ev (dE e) ∧ Q (.bl (e.seek g)) H
theorem sc_is_seeker : FnScope ["evening", "guest", "rack", "guests", "lost"] ["evening", "guest"] (defScope s_is_seeker) := ⟨rfl, rfl, rfl, by decide +kernel, rfl, by decide +kernel, by decide +kernel⟩
theorem ok_is_seeker (T : Tx K mg) : FnOk P w K mg base CX0 1 (He.ga K "is_seeker") T.fd_is_seeker ["evening", "guest"] (sp_is_seeker K) := by
  refine T.F_is_seeker.ok sc_is_seeker (fun vs H Q E h => ?_) (fun cdv A outer s H vs Q E hr h => ?_)
  · obtain ⟨ev, e, g, rfl, _⟩ := h
    rfl
  obtain ⟨ev, e, g, rfl, hE, k⟩ := h
  refine ⟨_, PSs.nox (pss_cons (ps_asg (pv 0) (pg_tup rfl (pgs_cons (pg_name (i := 2) sc_is_seeker.nd rfl (Or.inl rfl)) (pgs_cons (pg_name (i := 3) sc_is_seeker.nd rfl (Or.inl rfl)) (pgs_cons (pg_name (i := 4) sc_is_seeker.nd rfl (Or.inl rfl)) pgs_nil)))))
      (pss_one (ps_ret (pe_and (pe_cmpR op_in_seq (pv 1) (pv 3) rfl) (pe_and (pe_cmpR op_notIn_seq (pv 1) (pv 4) rfl) (pe_one (pe_cmpR op_in_seq (pv 1) (pv 2) rfl))))))), ?_⟩
  obtain ⟨p, a, b, c, rfl, hp, ha, hb, hc⟩ := dE_at hE
  refine ⟨_, rfl, p, _, rfl, hp, rfl, _, _, rfl, _, _, rfl, _, _, rfl, rfl, ?_⟩
  refine ⟨_, rfl, _, rfl, b, _, rfl, .inr hb, rfl, flat_strs _, _, rfl, ?_⟩
  rw [if_neg Bool.false_ne_true, inV_strs]
  unfold Ev.seek at k
  refine ite2 (fun h1 => ?_) (fun h1 => ?_)
  · rw [h1] at k
    refine ⟨_, rfl, _, rfl, c, _, rfl, .inr hc, rfl, flat_strs _, _, rfl, ?_⟩
    rw [if_pos rfl, inV_strs]
    refine ite2 (fun h2 => ?_) (fun h2 => ?_)
    · rw [h2] at k
      refine ⟨_, rfl, _, rfl, a, _, rfl, .inr ha, rfl, flat_strs _, ?_⟩
      rw [if_neg Bool.false_ne_true, inV_strs]
      exact k
    · rw [Bool.eq_false_iff.mpr h2] at k
      exact k
  · rw [Bool.eq_false_iff.mpr h1] at k
    exact k
/-! ### seekers -/
def sp_seekers (K : PySem.W.Frag) : Sp := fun vs H Q _ => ∃ (ev : V) (e : Ev), vs = [ev] ∧ Dp K H ev (dE e) ∧ e.guests.length ≤ 100 ∧ ∀ H' v, Same H H' → Dp K H' v (dL e.seekers) → Q v H'
theorem sc_seekers : FnScope ["evening", "guest"] ["evening"] (defScope s_seekers) := ⟨rfl, rfl, rfl, by decide +kernel, rfl, by decide +kernel, by decide +kernel⟩
theorem ok_seekers (T : Tx K mg) : FnOk P w K mg base CX0 2 (He.ga K "seekers") T.fd_seekers ["evening"] (sp_seekers K) := by
  refine T.F_seekers.ok sc_seekers (fun vs H Q E h => ?_) (fun cdv A outer s H vs Q E hr h => ?_)
  · obtain ⟨ev, e, rfl, _⟩ := h
    rfl
  obtain ⟨ev, e, rfl, hE, hlen, k⟩ := h
  refine ⟨_, PSs.nox (pss_one (ps_ret (pe_lc (own := [("guest", 1)]) (g := gName 1) rfl sc_seekers.nd (pi_tup (pe_ix ix_tup (pv 0) pe_int (fun _ _ => rfl))) (blkOk_by (own := [("guest", 1)]) (N := ["evening", "guest"]) (sc := defScope s_seekers) (by decide +kernel)) (fun _ _ _ _ _ => (pg_name (i := 1) sc_seekers.nd rfl (Or.inl rfl))) (fun _ _ _ _ _ => pts_one (pt_val (pe_call (ok_is_seeker T) (hr.mono (by decide)) rfl T.g_is_seeker T.F_is_seeker.kp T.b_is_seeker .nil pass0 (pa_cons (pv 0) (pa_cons (pv 1) pa_nil))))) (fun _ _ _ _ _ => (pv 1))))), ?_⟩
  obtain ⟨p, a, b, c, rfl, hp, ha, hb, hc⟩ := dE_at hE
  refine ⟨_, rfl, p, _, 1, _, rfl, rfl, hp, rfl, b, rfl, ⟨_, hb⟩, fun D hD => ?_⟩
  refine lc_dat (K := K) e.guests (fun g => if e.seek g then some (.str g) else none) (walkS (K := K) e.guests) (fun g d h => ?_) (by unfold sizeLine; omega) hD (fun H' q => q.sqt hb) ?_ ?_
  · rw [some_if h]
    rfl
  · rintro i g x H1 _ W N eg s1 ⟨rfl, u, eu, rfl⟩ kW kN
    rw [eg] at eu
    cases eu
    refine ⟨rfl, _, rfl, _, rfl, _, e, g, rfl, Dp.same s1 _ hE, _, rfl, ?_⟩
    refine ite2 (fun q => ⟨_, rfl, kW _ _ _ (fun _ _ h => h) (by rw [if_pos q]) (.str g)⟩) (fun q => kN _ (fun _ _ h => h) (by rw [if_neg q]))
  · intro H1 zs s1 h1 h2
    refine k _ _ s1 (.lst (SqL.of h1) ?_)
    rw [filterMap_if] at h2
    exact h2
/-! ### hook_of -/
def sp_hook_of (K : PySem.W.Frag) : Sp := fun vs H Q _ => ∃ (ev : V) (e : Ev) (c : Str), vs = [ev, .str c] ∧ Dp K H ev (dE e) ∧ c ∈ e.rack ∧ e.rack.length ≤ 100 ∧ ∀ H', Same H H' → Q (.int (e.rack.idxOf c + 1 : Nat)) H'
theorem sc_hook_of : FnScope ["evening", "coat"] ["evening", "coat"] (defScope s_hook_of) := ⟨rfl, rfl, rfl, by decide +kernel, rfl, by decide +kernel, by decide +kernel⟩
theorem ok_hook_of (T : Tx K mg) : FnOk P w K mg base CX0 1 (He.ga K "hook_of") T.fd_hook_of ["evening", "coat"] (sp_hook_of K) := by
  refine T.F_hook_of.ok sc_hook_of (fun vs H Q E h => ?_) (fun cdv A outer s H vs Q E hr h => ?_)
  · obtain ⟨ev, e, c, rfl, _⟩ := h
    rfl
  obtain ⟨ev, e, c, rfl, hE, hc, hlen, k⟩ := h
  refine ⟨_, PSs.nox (pss_cons (ps_if (pt_cmpR op_notIn_seq (pv 1) (pe_ix ix_tup (pv 0) pe_int (fun _ _ => rfl)) rfl) (pss_one ps_never) pss_nil)
      (pss_one (ps_ret (pe_op op_add (pe_bm PySem.F.plainAttrs_list PySem.F.slot_list_index PySem.F.type_list_index mt_indexS (pe_callTy call_list_of (by rfl) T.n_list (by decide +kernel) (pa_cons (pe_ix ix_tup (pv 0) pe_int (fun _ _ => rfl)) pa_nil)) (pa_cons (pv 1) pa_nil)) pe_int)))), ?_⟩
  obtain ⟨p, a, b, l, rfl, hp, ha, hb, hl⟩ := dE_at hE
  refine ⟨_, rfl, _, rfl, p, _, 0, _, rfl, rfl, hp, rfl, rd_nin (.inr ha) ⟨_, rfl, ?_⟩⟩
  rw [decide_eq_true hc]
  refine iteF ⟨_, rfl, p, _, 0, _, rfl, rfl, hp, rfl, a, _, rfl, .inr ha, fun l hl0 => ?_⟩
  refine ⟨.inl ⟨rfl, _, SqL.of upd_same⟩, _, rfl, ⟨l, e.rack, c, rfl, rfl, SqL.of upd_same, hc, ?_⟩⟩
  exact rd_I0 (k _ (same_new hl0))
theorem walkEn {K : PySem.W.Frag} {a : Addr} (us : List Str) : Walk (ItEn K a) us.length (fun H => SqT K H a (us.map V.str)) (fun i H x H' => ∃ T u, x = .ref T ∧ H T = none ∧ H' = upd H T (.tup [.int (i : Nat), .str u]) ∧ us[i]? = some u) := by
  refine ⟨fun i H hi q => ⟨_, .str us[i], q, by simp [hi]⟩, fun H q => ⟨_, q, by simp⟩, fun i H x H' hi q y => ?_⟩
  obtain ⟨T, v, h1, h2, h3, h4⟩ := y
  have e := h4 _ q
  rw [List.getElem?_map] at e
  obtain ⟨u, e1, rfl⟩ := Option.map_eq_some_iff.mp e
  exact ⟨T, u, h1, h2, h3, e1⟩
/-! ### look_goers -/
def sp_look_goers (K : PySem.W.Frag) : Sp := fun vs H Q _ => ∃ (ev gv : V) (e : Ev) (gs : List Str), vs = [ev, gv] ∧ Dp K H ev (dE e) ∧ Dp K H gv (dT gs) ∧ gs.length ≤ 100 ∧ gs.Nodup ∧ (∀ g ∈ gs, g ∈ e.guests) ∧ ∀ H', Same H H' → Q .non H'
theorem sc_look_goers : FnScope ["evening", "goers", "place", "guest"] ["evening", "goers"] (defScope s_look_goers) := ⟨rfl, rfl, rfl, by decide +kernel, rfl, by decide +kernel, by decide +kernel⟩
theorem ok_look_goers (T : Tx K mg) : FnOk P w K mg base CX0 1 (He.ga K "look_goers") T.fd_look_goers ["evening", "goers"] (sp_look_goers K) := by
  refine T.F_look_goers.ok sc_look_goers (fun vs H Q E h => ?_) (fun cdv A outer s H vs Q E hr h => ?_)
  · obtain ⟨ev, gv, e, gs, rfl, _⟩ := h
    rfl
  obtain ⟨ev, gv, e, gs, rfl, hE, hG, hlen, nd, sub, k⟩ := h
  refine ⟨_, PSs.nox (pss_one (ps_for PassesOwn.never rfl (pi_enumT (by rfl) T.n_enumerate (pa_cons (pv 1) pa_nil)) (pg_tup rfl (pgs_cons (pg_name (i := 2) sc_look_goers.nd rfl (Or.inl rfl)) (pgs_cons (pg_name (i := 3) sc_look_goers.nd rfl (Or.inl rfl)) pgs_nil))) (pss_one (ps_if (PW.pt (pw_or (pt_cmpR op_notIn_seq (pv 3) (pe_ix ix_tup (pv 0) pe_int (fun _ _ => rfl)) rfl) (pw_or1 (pt_cmpR op_in_seq (pv 3) (pe_slice sl_tupA (pv 1) po_none (po_some (pv 2))) rfl)))) (pss_one ps_never) pss_nil)))), ?_⟩
  obtain ⟨p, a, b, l, rfl, hp, ha, hb, hl⟩ := dE_at hE
  obtain ⟨q, rfl, hq⟩ := dT_at hG
  refine ⟨_, rfl, q, _, rfl, hq, ?_⟩
  refine for_it (walkEn gs) (fun i σ H' => (∃ x y, σ = [some (.ref p), some (.ref q), x, y]) ∧ Same H H') ⟨⟨_, _, rfl⟩, fun _ _ h => h⟩ (fun i σ H' _ h => h.2.sqt hq) ?_ (fun σ H' h => k _ h.2)
  rintro i x σ H1 H2 hi ⟨⟨y, z, rfl⟩, s1⟩ ⟨t, u, rfl, ht, rfl, eu⟩
  have s2 := s1.new ht (o := .tup [.int (i : Nat), .str u])
  refine ⟨t, _, rfl, .inl (.inl upd_same), rfl, _, _, rfl, _, _, rfl, rfl, ?_⟩
  refine ⟨_, rfl, _, rfl, p, _, 1, _, rfl, rfl, s2.sqt hp, rfl, rd_nin (.inr (s2.sqt hb)) ⟨_, rfl, ?_⟩⟩
  rw [decide_eq_true (sub u (List.mem_iff_getElem?.mpr ⟨i, eu⟩))]
  refine iteF ?_
  refine ⟨_, rfl, _, rfl, _, rfl, _, rfl, rd_slA (s2.sqt hq) fun H3 r s3 hr3 => ?_⟩
  rw [cut_take, ← List.map_take] at hr3
  refine rd_in (.inr hr3) ⟨_, rfl, ?_⟩
  rw [decide_eq_false (fun z => ?_)]
  · exact iteF ⟨⟨_, _, rfl⟩, s2.trans s3⟩
  · obtain ⟨j, hj, ej⟩ := List.mem_take_iff_getElem.mp z
    have e2 : gs[j]? = some u := by rw [← ej]; exact List.getElem?_eq_getElem (by omega)
    exact absurd ((List.getElem?_inj (by omega) nd).mp (e2.trans eu.symm)) (by omega)
end
end WC
namespace WC
open PySem PySem.Spec PyProof.Rows L2
/-! the evening's run -/
def Ev.coat (e : Ev) (left : List Str) (g : Str) : Str := if e.seek g && decide (g ∈ left) then g else left.headD g
def Ev.run (e : Ev) : List Str → List Str → List PP
  | _, [] => []
  | left, g :: gs => (g, e.coat left g) :: e.run (left.erase (e.coat left g)) gs
def Ev.goes (e : Ev) (gs : List Str) : List PP := e.run e.rack gs
def Ev.way (e : Ev) (gs : List Str) : List PP := (e.goes gs).mergeSort (PySem.W.dataLe false dP)
theorem coat_mem {e : Ev} {left : List Str} {g : Str} (h : left ≠ []) : e.coat left g ∈ left := by
  unfold Ev.coat
  by_cases q : (e.seek g && decide (g ∈ left)) = true
  · rw [if_pos q]
    rw [Bool.and_eq_true] at q
    exact of_decide_eq_true q.2
  · rw [if_neg q]
    cases left with
    | nil => exact absurd rfl h
    | cons a l => exact List.mem_cons_self
section
variable {P : Program} {w : World} {K : PySem.W.Frag} {mg : Str → Option Value} {base : Heap}
theorem rd_coat {H : Hp} {σ : L2.St} {ie ig il : Nat} {R : VK} {e : Ev} {ev : V} {u : Str} {L : Addr} {left : List Str} (h0 : σ[ie]? = some (some ev)) (h1 : σ[ig]? = some (some (.str u))) (h2 : σ[il]? = some (some (.ref L))) (hE : Dp K H ev (dE e))
    (hL : H L = some (.lst (left.map V.str))) (ne : left ≠ []) (k : R (.str (e.coat left u)) H) :
    tIf (tAnd (tB (tCall (sp_is_seeker K) [] E0 (tCons (tVar ie) (tCons (tVar ig) tNil)))) (tTest (tOp (rIn K false) (tVar ig) (tVar il)))) (tVar ig) (tOp (rIxL K) (tVar il) (tC (.int 0))) σ H R := by
  unfold Ev.coat at k
  refine ⟨_, h0, _, h1, _, e, u, rfl, hE, _, rfl, ?_⟩
  have hd : atI (left.map V.str) ((0 : Nat) : Int) = some (.str (left.headD u)) := L2.atI_nat (by
    cases left with
    | nil => exact absurd rfl ne
    | cons a l => rfl)
  refine ite2 (fun q => ?_) (fun q => ?_)
  · refine ⟨_, h1, _, h2, rd_in (.inl (SqL.of hL)) ⟨_, rfl, ?_⟩⟩
    refine ite2 (fun r => ?_) (fun r => ?_)
    · rw [q, r, if_pos (by rfl)] at k
      exact ⟨_, h1, k⟩
    · rw [q, Bool.eq_false_iff.mpr r, if_neg (by decide)] at k
      exact ⟨_, h2, L, _, 0, _, rfl, rfl, SqL.of hL, hd, k⟩
  · rw [Bool.eq_false_iff.mpr q, if_neg (by simp)] at k
    exact iteF ⟨_, h2, L, _, 0, _, rfl, rfl, SqL.of hL, hd, k⟩
/-! ### goes -/
def sp_goes (K : PySem.W.Frag) : Sp := fun vs H Q _ => ∃ (ev gv : V) (e : Ev) (gs : List Str), vs = [ev, gv] ∧ Dp K H ev (dE e) ∧ Dp K H gv (dT gs) ∧ gs.length ≤ 100 ∧ gs.Nodup ∧ (∀ g ∈ gs, g ∈ e.guests) ∧ gs.length ≤ e.rack.length ∧ e.rack.length ≤ 100 ∧
  ∀ H' v, Same H H' → Dp K H' v (dLP (e.goes gs)) → Q v H'
theorem sc_goes : FnScope ["evening", "goers", "left", "found", "guest", "coat"] ["evening", "goers"] (defScope s_goes) := ⟨rfl, rfl, rfl, by decide +kernel, rfl, by decide +kernel, by decide +kernel⟩
theorem ok_goes (T : Tx K mg) : FnOk P w K mg base CX0 2 (He.ga K "goes") T.fd_goes ["evening", "goers"] (sp_goes K) := by
  refine T.F_goes.ok sc_goes (fun vs H Q E h => ?_) (fun cdv A outer s H vs Q E hr h => ?_)
  · obtain ⟨ev, gv, e, gs, rfl, _⟩ := h
    rfl
  obtain ⟨ev, gv, e, gs, rfl, hE, hG, hlen, nd, sub, hle, hrk, k⟩ := h
  refine ⟨_, PSs.nox (pss_cons (ps_expr (pe_call (ok_look_goers T) (hr.mono (by decide)) rfl T.g_look_goers T.F_look_goers.kp T.b_look_goers .nil pass0 (pa_cons (pv 0) (pa_cons (pv 1) pa_nil))))
      (pss_cons (ps_par (i := 2) (j := 3) rfl sc_goes.nd rfl rfl (by decide) rfl rfl (pa_cons (pe_callTy call_list_of (by rfl) T.n_list (by decide +kernel) (pa_cons (pe_ix ix_tup (pv 0) pe_int (fun _ _ => rfl)) pa_nil)) (pa_cons (pe_lst pa_nil) pa_nil)) rfl)
      (pss_cons (ps_for PassesOwn.never rfl (pi_tup (pv 1)) (pg_name (i := 4) sc_goes.nd rfl (Or.inl rfl)) (pss_cons (ps_set (i := 5) sc_goes.nd rfl (Or.inl rfl) (pe_ifExp (PW.pt (pw_and (pt_val (pe_call (ok_is_seeker T) (hr.mono (by decide)) rfl T.g_is_seeker T.F_is_seeker.kp T.b_is_seeker .nil pass0 (pa_cons (pv 0) (pa_cons (pv 4) pa_nil)))) (pw_and1 (pt_cmpR op_in_seq (pv 4) (pv 2) rfl)))) (pv 4) (pe_ix ix_list (pv 2) pe_int (fun _ _ => rfl))))
      (pss_cons (ps_expr (pe_bm PySem.F.plainAttrs_list PySem.F.slot_list_remove PySem.F.type_list_remove (mt_removeS hr) (pv 2) (pa_cons (pv 5) pa_nil)))
      (pss_one (ps_expr (pe_bm PySem.F.plainAttrs_list PySem.F.slot_list_append PySem.F.type_list_append mt_append (pv 3) (pa_cons (pe_tup (pa_cons (pv 4) (pa_cons (pv 5) pa_nil))) pa_nil)))))))
      (pss_one (ps_ret (pv 3)))))), ?_⟩
  obtain ⟨p, a, b, l, rfl, hp, ha, hb, hl⟩ := dE_at hE
  obtain ⟨q, rfl, hq⟩ := dT_at hG
  refine ⟨_, rfl, _, rfl, _, _, e, gs, rfl, hE, hG, hlen, nd, sub, fun H1 s1 => ?_⟩
  refine ⟨_, rfl, p, _, 0, _, rfl, rfl, s1.sqt hp, rfl, a, _, rfl, .inr (s1.sqt ha), fun L hL => ?_⟩
  refine ⟨by decide, fun F hF => ?_⟩
  have nFL : F ≠ L := fun z => by rw [z, upd_same] at hF; cases hF
  have s2 : Same H (upd (upd H1 L (.lst (e.rack.map V.str))) F (.lst [])) := (s1.new hL).new hF
  have fL : H L = none := s1.free hL
  have fF : H F = none := (s1.new hL).free hF
  refine ⟨_, _, rfl, ?_⟩
  refine ⟨_, rfl, q, rfl, ⟨_, s2.sqt hq⟩, ?_⟩
  refine for_it (walkS gs) (fun i σ H' => (∃ x y, σ = [some (.ref p), some (.ref q), some (.ref L), some (.ref F), x, y]) ∧ Same H H' ∧ ∃ (left : List Str) (found : List PP) (zs : List V),
    H' L = some (.lst (left.map V.str)) ∧ H' F = some (.lst zs) ∧ DpAll K H' zs (found.map dP) ∧ e.goes gs = found ++ e.run left (gs.drop i) ∧ left.length + i = e.rack.length ∧ found.length = i)
    ⟨⟨_, _, rfl⟩, s2, e.rack, [], [], by rw [upd_ne nFL.symm]; exact upd_same, upd_same, .nil, rfl, rfl, rfl⟩ (fun i σ H' _ h => h.2.1.sqt hq) ?_ ?_
  · rintro i x σ _ H2 hi ⟨⟨y, z, rfl⟩, s3, left, found, zs, h1, h2, h3, h4, h5, h6⟩ ⟨rfl, u, eu, rfl⟩
    have dE2 := Dp.same s3 _ hE
    have ne : left ≠ [] := fun z => by subst z; simp at h5; omega
    have cm := coat_mem (e := e) (g := u) ne
    refine rd_coat rfl rfl rfl dE2 h1 ne ?_
    refine ⟨_, rfl, .inl ⟨rfl, _, SqL.of h1⟩, _, rfl, L, left, _, rfl, rfl, h1, cm, ?_⟩
    have hF2 : (upd H2 L (.lst ((left.erase (e.coat left u)).map V.str))) F = some (.lst zs) := by rw [upd_ne nFL]; exact h2
    refine ⟨_, rfl, .inl ⟨rfl, _, SqL.of hF2⟩, _, rfl, _, rfl, sz2, fun t ht => ?_⟩
    have s4 := s3.mut fL (o := .lst ((left.erase (e.coat left u)).map V.str))
    have h3' := DpAll.mutL (o := .lst ((left.erase (e.coat left u)).map V.str)) h1 _ (lless_dPs found) h3
    obtain ⟨h2', h7⟩ := app_pair (x := u) (y := e.coat left u) hF2 h3' ht
    refine ⟨F, zs, _, rfl, rfl, h2', ?_, ⟨_, _, rfl⟩, (s4.new ht).mut fF, left.erase (e.coat left u), found ++ [(u, e.coat left u)], zs ++ [.ref t], ?_, upd_same, h7, ?_, ?_, ?_⟩
    · have := h3.length
      rw [List.length_map] at this
      unfold sizeLine
      omega
    · rw [upd_ne nFL.symm, upd_ne (ne_of_none upd_same ht)]
      exact upd_same
    · rw [h4, drop_get eu, List.append_assoc]
      rfl
    · rw [List.length_erase_of_mem cm]
      have := List.length_pos_iff.mpr ne
      omega
    · rw [List.length_append, h6]
      rfl
  · rintro σ H2 ⟨⟨y, z, rfl⟩, s3, left, found, zs, h1, h2, h3, h4, h5, h6⟩
    rw [List.drop_length] at h4
    refine ⟨_, rfl, k _ _ s3 (.lst (SqL.of h2) ?_)⟩
    rw [h4]
    simpa [Ev.run] using h3
end
end WC
namespace WC
open PySem PySem.Spec PyProof.Rows L2
def Ev.ahead (e : Ev) (g c : Str) : Bool := e.seek g && decide (e.rack.idxOf c < e.rack.idxOf g)
def Ev.whyNot (e : Ev) (way : List PP) : Option Str := ((way.filter fun p => e.ahead p.1 p.2).map Prod.fst).head?
def optS : Option Str → V
  | some x => .str x
  | none => .non
theorem seek_rack {e : Ev} {g : Str} (h : e.seek g = true) : g ∈ e.rack := by
  unfold Ev.seek at h
  simp only [Bool.and_eq_true] at h
  exact of_decide_eq_true h.2.2
section
variable {P : Program} {w : World} {K : PySem.W.Frag} {mg : Str → Option Value} {base : Heap}
/-! ### way_of -/
def sp_way_of (K : PySem.W.Frag) : Sp := fun vs H Q _ => ∃ (ev gv : V) (e : Ev) (gs : List Str), vs = [ev, gv] ∧ Dp K H ev (dE e) ∧ Dp K H gv (dT gs) ∧ gs.length ≤ 100 ∧ gs.Nodup ∧ (∀ g ∈ gs, g ∈ e.guests) ∧ gs.length ≤ e.rack.length ∧ e.rack.length ≤ 100 ∧
  ∀ H' v, Same H H' → Dp K H' v (dTP (e.way gs)) → Q v H'
theorem sc_way_of : FnScope ["evening", "order"] ["evening", "order"] (defScope s_way_of) := ⟨rfl, rfl, rfl, by decide +kernel, rfl, by decide +kernel, by decide +kernel⟩
theorem ok_way_of (T : Tx K mg) : FnOk P w K mg base CX0 3 (He.ga K "way_of") T.fd_way_of ["evening", "order"] (sp_way_of K) := by
  refine T.F_way_of.ok sc_way_of (fun vs H Q E h => ?_) (fun cdv A outer s H vs Q E hr h => ?_)
  · obtain ⟨ev, gv, e, gs, rfl, _⟩ := h
    rfl
  obtain ⟨ev, gv, e, gs, rfl, hE, hG, h1, h2, h3, h4, h5, k⟩ := h
  refine ⟨_, PSs.nox (pss_one (ps_ret (pe_callTy call_tuple_of (by rfl) T.n_tuple (by decide +kernel) (pa_cons (pe_callB (cr_sortedPS hr) (by rfl) T.n_sorted (by decide +kernel) (pa_cons (pe_call (ok_goes T) (hr.mono (by decide)) rfl T.g_goes T.F_goes.kp T.b_goes .nil pass0 (pa_cons (pv 0) (pa_cons (pv 1) pa_nil))) pa_nil)) pa_nil)))), ?_⟩
  refine ⟨_, rfl, _, rfl, _, _, e, gs, rfl, hE, hG, h1, h2, h3, h4, h5, fun H1 v s1 hv => ?_⟩
  obtain ⟨a, vs, rfl, _⟩ := dLP_at hv
  refine ⟨a, _, rfl, hv, fun p ys hp hys => ?_⟩
  refine ⟨p, ys, rfl, .inl ⟨SqL.of upd_same, fun l hl => ?_⟩⟩
  exact k _ _ ((s1.new hp).new hl) (.tup (.inl (.inl upd_same)) (DpAll.same (same_new hl) _ (DpAll.same (same_new hp) _ hys)))
/-! ### is_ahead -/
def sp_is_ahead (K : PySem.W.Frag) : Sp := fun vs H Q _ => ∃ (ev : V) (e : Ev) (g c : Str), vs = [ev, .str g, .str c] ∧ Dp K H ev (dE e) ∧ c ∈ e.rack ∧ e.rack.length ≤ 100 ∧ ∀ H', Same H H' → Q (.bl (e.ahead g c)) H'
theorem sc_is_ahead : FnScope ["evening", "guest", "coat"] ["evening", "guest", "coat"] (defScope s_is_ahead) := ⟨rfl, rfl, rfl, by decide +kernel, rfl, by decide +kernel, by decide +kernel⟩
theorem ok_is_ahead (T : Tx K mg) : FnOk P w K mg base CX0 2 (He.ga K "is_ahead") T.fd_is_ahead ["evening", "guest", "coat"] (sp_is_ahead K) := by
  refine T.F_is_ahead.ok sc_is_ahead (fun vs H Q E h => ?_) (fun cdv A outer s H vs Q E hr h => ?_)
  · obtain ⟨ev, e, g, c, rfl, _⟩ := h
    rfl
  obtain ⟨ev, e, g, c, rfl, hE, hc, hlen, k⟩ := h
  refine ⟨_, PSs.nox (pss_one (ps_ret (pe_and (pe_call (ok_is_seeker T) (hr.mono (by decide)) rfl T.g_is_seeker T.F_is_seeker.kp T.b_is_seeker .nil pass0 (pa_cons (pv 0) (pa_cons (pv 1) pa_nil))) (pe_one (pe_cmpR op_lt (pe_call (ok_hook_of T) (hr.mono (by decide)) rfl T.g_hook_of T.F_hook_of.kp T.b_hook_of .nil pass0 (pa_cons (pv 0) (pa_cons (pv 2) pa_nil))) (pe_call (ok_hook_of T) (hr.mono (by decide)) rfl T.g_hook_of T.F_hook_of.kp T.b_hook_of .nil pass0 (pa_cons (pv 0) (pa_cons (pv 1) pa_nil))) (nomark _)))))), ?_⟩
  refine ⟨_, rfl, _, rfl, _, e, g, rfl, hE, _, rfl, ?_⟩
  unfold Ev.ahead at k
  refine ite2 (fun q => ?_) (fun q => ?_)
  · rw [q] at k
    refine ⟨_, rfl, _, rfl, _, e, c, rfl, hE, hc, hlen, fun H1 s1 => ?_⟩
    refine ⟨_, rfl, _, rfl, _, e, g, rfl, Dp.same s1 _ hE, seek_rack q, hlen, fun H2 s2 => ?_⟩
    refine ⟨_, _, rfl, rfl, ?_⟩
    have h := k _ (s1.trans s2)
    rw [Bool.true_and] at h
    show Q (.bl (decide (((e.rack.idxOf c + 1 : Nat) : Int) < ((e.rack.idxOf g + 1 : Nat) : Int)))) H2
    rw [decide_eq_decide.mpr (show ((e.rack.idxOf c + 1 : Nat) : Int) < ((e.rack.idxOf g + 1 : Nat) : Int) ↔ e.rack.idxOf c < e.rack.idxOf g by omega)]
    exact h
  · rw [Bool.eq_false_iff.mpr q] at k
    exact k _ (fun _ _ h => h)
/-! ### why_not -/
def sp_why_not (K : PySem.W.Frag) : Sp := fun vs H Q _ => ∃ (ev wv : V) (e : Ev) (way : List PP), vs = [ev, wv] ∧ Dp K H ev (dE e) ∧ Dp K H wv (dTP way) ∧ way.length ≤ 100 ∧ (∀ p ∈ way, p.2 ∈ e.rack) ∧ e.rack.length ≤ 100 ∧
  ∀ H', Same H H' → Q (optS (e.whyNot way)) H'
theorem sc_why_not : FnScope ["evening", "way", "found", "guest", "coat"] ["evening", "way"] (defScope s_why_not) := ⟨rfl, rfl, rfl, by decide +kernel, rfl, by decide +kernel, by decide +kernel⟩
theorem ok_why_not (T : Tx K mg) : FnOk P w K mg base CX0 3 (He.ga K "why_not") T.fd_why_not ["evening", "way"] (sp_why_not K) := by
  refine T.F_why_not.ok sc_why_not (fun vs H Q E h => ?_) (fun cdv A outer s H vs Q E hr h => ?_)
  · obtain ⟨ev, wv, e, way, rfl, _⟩ := h
    rfl
  obtain ⟨ev, wv, e, way, rfl, hE, hW, h1, h2, h3, k⟩ := h
  refine ⟨_, PSs.nox (pss_cons (ps_setLc (i := 2) (own := [("guest", 3), ("coat", 4)]) (g := gTup K 2 (gCons (gName 3) (gCons (gName 4) gNil))) rfl sc_why_not.nd rfl rfl (sw_true rfl rfl rfl (by decide +kernel)) (pi_tup (pv 1)) (blkOk_by (own := [("guest", 3), ("coat", 4)]) (N := ["evening", "way", "found", "guest", "coat"]) (sc := defScope s_why_not) (by decide +kernel)) (fun _ _ _ _ _ => (pg_tup rfl (pgs_cons (pg_name (i := 3) sc_why_not.nd rfl (Or.inl rfl)) (pgs_cons (pg_name (i := 4) sc_why_not.nd rfl (Or.inl rfl)) pgs_nil)))) (fun _ _ _ _ _ => pts_one (pt_val (pe_call (ok_is_ahead T) (hr.mono (by decide)) rfl T.g_is_ahead T.F_is_ahead.kp T.b_is_ahead .nil pass0 (pa_cons (pv 0) (pa_cons (pv 3) (pa_cons (pv 4) pa_nil)))))) (fun _ _ _ _ _ => (pv 3)))
      (pss_one (ps_ret (pe_ifExp (pt_cmpR (op_neB encL hr) (pv 2) (pe_lst pa_nil) (nomark _)) (pe_ix ix_list (pv 2) pe_int (fun _ _ => rfl)) pe_non)))), ?_⟩
  obtain ⟨q, ws, rfl, hq, hws⟩ := dTP_at hW
  refine ⟨_, rfl, q, rfl, ⟨_, hq⟩, fun D hD => ?_⟩
  refine lc_dat (K := K) way (fun p => if e.ahead p.1 p.2 then some (.str p.1) else none) (walkTD way dP (by rw [hws.length, List.length_map])) (fun p d h => ?_) (sz100 (by omega)) hD (fun H' q => q.sqt hq) ?_ ?_
  · rw [some_if (p := fun p : PP => e.ahead p.1 p.2) (f := fun p : PP => PyData.str p.1) h]
    rfl
  · rintro i p x H1 _ W N ep s1 ⟨rfl, ex⟩ kW kN
    obtain ⟨t, rfl, ht⟩ := dP_at (Dp.same s1 _ (hws.at_map ep ex))
    refine ⟨t, _, rfl, ht, rfl, _, _, rfl, _, _, rfl, rfl, rfl, ?_⟩
    refine ⟨_, rfl, _, rfl, _, rfl, _, e, p.1, p.2, rfl, Dp.same s1 _ hE, h2 _ (List.mem_iff_getElem?.mpr ⟨i, ep⟩), h3, fun H2 s2 => ⟨_, rfl, ?_⟩⟩
    refine ite2 (fun q => ⟨_, rfl, kW _ _ _ s2 (by rw [if_pos q]) (.str p.1)⟩) (fun q => kN _ s2 (by rw [if_neg q]))
  · intro H1 zs s1 hz hd
    rw [filterMap_if (fun p : PP => e.ahead p.1 p.2) (fun p : PP => PyData.str p.1)] at hd
    generalize hc : (way.filter fun p => e.ahead p.1 p.2) = c at hd
    have hd2 : Dp K H1 (.ref D) (dL (c.map Prod.fst)) := .lst (SqL.of hz) (by rw [List.map_map]; exact hd)
    unfold Ev.whyNot at k
    rw [hc] at k
    refine ⟨_, rfl, by decide, fun N hN => ?_⟩
    have s2 := s1.new hN (o := .lst [])
    refine ⟨c.map Prod.fst, [], Dp.same (same_new hN) _ hd2, .lst (SqL.of upd_same) .nil, _, rfl, ?_⟩
    rw [if_pos rfl]
    cases c with
    | nil => exact k _ s2
    | cons p c =>
      rw [decide_eq_false (by simp)]
      obtain ⟨D', eD, hD2⟩ := dL_at (Dp.same (same_new hN (o := .lst [])) _ hd2)
      cases eD
      exact ⟨_, rfl, D, _, 0, _, rfl, rfl, hD2, L2.atI_nat (j := 0) rfl, k _ s2⟩
/-! ### can_be -/
def sp_can_be (K : PySem.W.Frag) : Sp := fun vs H Q _ => ∃ (ev wv : V) (e : Ev) (way : List PP), vs = [ev, wv] ∧ Dp K H ev (dE e) ∧ Dp K H wv (dTP way) ∧ way.length ≤ 100 ∧ (∀ p ∈ way, p.2 ∈ e.rack) ∧ e.rack.length ≤ 100 ∧
  ∀ H', Same H H' → Q (.bl (e.whyNot way).isNone) H'
theorem sc_can_be : FnScope ["evening", "way"] ["evening", "way"] (defScope s_can_be) := ⟨rfl, rfl, rfl, by decide +kernel, rfl, by decide +kernel, by decide +kernel⟩
theorem ok_can_be (T : Tx K mg) : FnOk P w K mg base CX0 4 (He.ga K "can_be") T.fd_can_be ["evening", "way"] (sp_can_be K) := by
  refine T.F_can_be.ok sc_can_be (fun vs H Q E h => ?_) (fun cdv A outer s H vs Q E hr h => ?_)
  · obtain ⟨ev, wv, e, way, rfl, _⟩ := h
    rfl
  obtain ⟨ev, wv, e, way, rfl, hE, hW, h1, h2, h3, k⟩ := h
  refine ⟨_, PSs.nox (pss_one (ps_ret (pe_cmpR op_isN (pe_call (ok_why_not T) (hr.mono (by decide)) rfl T.g_why_not T.F_why_not.kp T.b_why_not .nil pass0 (pa_cons (pv 0) (pa_cons (pv 1) pa_nil))) pe_non (nomark _)))), ?_⟩
  refine ⟨_, rfl, _, rfl, _, _, e, way, rfl, hE, hW, h1, h2, h3, fun H1 s1 => ⟨rfl, ?_⟩⟩
  have h := k _ s1
  cases hw : e.whyNot way with
  | none =>
    rw [hw] at h
    exact h
  | some x =>
    rw [hw] at h
    exact h
/-! ### look_way -/
def sp_look_way (K : PySem.W.Frag) : Sp := fun vs H Q _ => ∃ (ev wv : V) (e : Ev) (way : List PP), vs = [ev, wv] ∧ Dp K H ev (dE e) ∧ Dp K H wv (dTP way) ∧ way.length ≤ 100 ∧ (∀ p ∈ way, p.2 ∈ e.rack) ∧ e.rack.length ≤ 100 ∧
  e.whyNot way = none ∧ ∀ H', Same H H' → Q .non H'
theorem sc_look_way : FnScope ["evening", "way"] ["evening", "way"] (defScope s_look_way) := ⟨rfl, rfl, rfl, by decide +kernel, rfl, by decide +kernel, by decide +kernel⟩
theorem ok_look_way (T : Tx K mg) : FnOk P w K mg base CX0 5 (He.ga K "look_way") T.fd_look_way ["evening", "way"] (sp_look_way K) := by
  refine T.F_look_way.ok sc_look_way (fun vs H Q E h => ?_) (fun cdv A outer s H vs Q E hr h => ?_)
  · obtain ⟨ev, wv, e, way, rfl, _⟩ := h
    rfl
  obtain ⟨ev, wv, e, way, rfl, hE, hW, h1, h2, h3, hn, k⟩ := h
  refine ⟨_, PSs.nox (pss_one (ps_if (pt_not (pt_val (pe_call (ok_can_be T) (hr.mono (by decide)) rfl T.g_can_be T.F_can_be.kp T.b_can_be .nil pass0 (pa_cons (pv 0) (pa_cons (pv 1) pa_nil))))) (pss_one ps_never) pss_nil)), ?_⟩
  refine ⟨_, rfl, _, rfl, _, _, e, way, rfl, hE, hW, h1, h2, h3, fun H1 s1 => ⟨_, rfl, ?_⟩⟩
  rw [hn]
  exact iteF (k _ s1)
end
end WC
namespace WC
open PySem PySem.Spec PyProof.Rows L2
/-! who has a coat -/
def hasG (way : List PP) (c : Str) : Str := ((way.find? fun p => decide (p.2 = c)).map Prod.fst).getD Str.empty
structure WayOk (e : Ev) (way : List PP) : Prop where
  len : way.length ≤ 100
  nd : (way.map Prod.snd).Nodup
  sub : ∀ p ∈ way, p.2 ∈ e.rack
  all : ∀ c ∈ e.rack, c ∈ way.map Prod.snd
  rack : e.rack.length ≤ 100
  guests : e.guests.length ≤ 100
def Ev.firsts (e : Ev) (way : List PP) : List Str := e.rack.filter fun c => !decide (hasG way c = c) || !decide (c ∈ e.seekers)
def needsGo (way : List PP) (ahead : List Str) : List Str → Option Str → List PP
  | [], _ => []
  | c :: cs, later => (match later with | some l => [(hasG way c, l)] | none => []) ++ needsGo way ahead cs (if c ∈ ahead then some (hasG way c) else later)
def Ev.needs (e : Ev) (way : List PP) : List PP := (needsGo way (e.firsts way) e.rack.reverse none).mergeSort (PySem.W.dataLe false dP)
def hasD (way : List PP) : List (Key × V) := way.map fun p => (.inr p.2, .str p.1)
theorem valV_hasD (c : Str) : ∀ {way : List PP}, c ∈ way.map Prod.snd → valV (hasD way) (.inr c) = some (.str (hasG way c))
  | [], h => by cases h
  | p :: way, h => by
    unfold hasD hasG
    rw [List.map_cons, List.find?_cons]
    by_cases q : p.2 = c
    · rw [valV_pos (by simp [q])]
      simp [q]
    · rw [valV_neg (by simp [q])]
      have hm : c ∈ way.map Prod.snd := by
        rcases List.mem_cons.mp h with z | z
        · exact absurd z.symm q
        · exact z
      have ih := valV_hasD c hm
      unfold hasD hasG at ih
      rw [ih]
      simp [q]
theorem dget_has {H : Hp} {D : Addr} {way : List PP} {c : Str} (hD : H D = some (.dK (hasD way))) (hc : c ∈ way.map Prod.snd) : DGet H D (.str c) (some (.str (hasG way c))) := by
  have h := DGet.k (k := .inr c) hD
  rw [valV_hasD c hc] at h
  exact h
section
variable {P : Program} {w : World} {K : PySem.W.Frag} {mg : Str → Option Value} {base : Heap}
theorem walkTP {a : Addr} {ws : List V} {way : List PP} {H0 : Hp} (h : DpAll K H0 ws (way.map dP)) : Walk (Itt K a) way.length (fun H => SqT K H a ws) (YAt ws) := walkTD way dP (by rw [h.length, List.length_map])
theorem walkLP {a : Addr} {ws : List V} {way : List PP} {H0 : Hp} (h : DpAll K H0 ws (way.map dP)) : Walk (Itl K a) way.length (fun H => SqL K H a ws) (YAt ws) := walkLD way dP (by rw [h.length, List.length_map])
/-! ### firsts -/
def sp_firsts (K : PySem.W.Frag) : Sp := fun vs H Q _ => ∃ (ev wv : V) (e : Ev) (way : List PP), vs = [ev, wv] ∧ Dp K H ev (dE e) ∧ Dp K H wv (dTP way) ∧ WayOk e way ∧
  ∀ H' v, Same H H' → Dp K H' v (dL (e.firsts way)) → Q v H'
theorem sc_firsts : FnScope ["evening", "way", "has", "seeking", "guest", "coat"] ["evening", "way"] (defScope s_firsts) := ⟨rfl, rfl, rfl, by decide +kernel, rfl, by decide +kernel, by decide +kernel⟩
theorem ok_firsts (T : Tx K mg) : FnOk P w K mg base CX0 3 (He.ga K "firsts") T.fd_firsts ["evening", "way"] (sp_firsts K) := by
  refine T.F_firsts.ok sc_firsts (fun vs H Q E h => ?_) (fun cdv A outer s H vs Q E hr h => ?_)
  · obtain ⟨ev, wv, e, way, rfl, _⟩ := h
    rfl
  obtain ⟨ev, wv, e, way, rfl, hE, hW, ok, k⟩ := h
  refine ⟨_, PSs.nox (pss_cons (ps_asg (pe_tup (pa_cons (pe_dc (own := [("guest", 4), ("coat", 5)]) (g := gTup K 2 (gCons (gName 4) (gCons (gName 5) gNil))) rfl sc_firsts.nd (pi_tup (pv 1)) (blkOk_by (own := [("guest", 4), ("coat", 5)]) (N := ["evening", "way", "has", "seeking", "guest", "coat"]) (sc := defScope s_firsts) (by decide +kernel)) (fun _ _ _ _ _ => (pg_tup rfl (pgs_cons (pg_name (i := 4) sc_firsts.nd rfl (Or.inl rfl)) (pgs_cons (pg_name (i := 5) sc_firsts.nd rfl (Or.inl rfl)) pgs_nil)))) (fun _ _ _ _ _ => pts_nil) (fun _ _ _ _ _ => (pv 5)) (fun _ _ _ _ _ => (pv 4))) (pa_cons (pe_call (ok_seekers T) (hr.mono (by decide)) rfl T.g_seekers T.F_seekers.kp T.b_seekers .nil pass0 (pa_cons (pv 0) pa_nil)) pa_nil))) (pg_tup rfl (pgs_cons (pg_name (i := 2) sc_firsts.nd rfl (Or.inr rfl)) (pgs_cons (pg_name (i := 3) sc_firsts.nd rfl (Or.inr rfl)) pgs_nil))))
      (pss_one (ps_ret (pe_lc (own := [("coat", 5)]) (g := gName 5) rfl sc_firsts.nd (pi_tup (pe_ix ix_tup (pv 0) pe_int (fun _ _ => rfl))) (blkOk_by (own := [("coat", 5)]) (N := ["evening", "way", "has", "seeking", "guest", "coat"]) (sc := defScope s_firsts) (by decide +kernel)) (fun _ _ _ _ _ => (pg_name (i := 5) sc_firsts.nd rfl (Or.inl rfl))) (fun _ _ _ _ _ => pts_one (PW.pt (pw_or (pt_cmpR op_ne (pe_dget (hu_of hr) (pv 2) (pv 5) (fun _ _ => rfl)) (pv 5) (nomark _)) (pw_or1 (pt_cmpR (op_ninK K rfl) (pv 5) (pv 3) rfl))))) (fun _ _ _ _ _ => (pv 5)))))), ?_⟩
  obtain ⟨q, ws, rfl, hq, hws⟩ := dTP_at hW
  obtain ⟨p, a, b, l, rfl, hp, ha, hb, hl⟩ := dE_at hE
  refine ⟨_, rfl, q, rfl, ⟨_, hq⟩, fun D hD => ?_⟩
  refine dc_dat way Prod.snd (fun p => .str p.1) (walkTP hws) (sz100 (by have := ok.len; omega)) hD (fun H' z => z.sqt hq) ?_ ?_
  · rintro i p x H1 _ W N ep s1 ⟨rfl, ex⟩ kW
    obtain ⟨t, rfl, ht⟩ := dP_at (Dp.same s1 _ (hws.at_map ep ex))
    refine ⟨t, _, rfl, ht, rfl, _, _, rfl, _, _, rfl, rfl, rfl, ?_⟩
    exact ⟨_, rfl, _, rfl, kW _ (fun _ _ h => h)⟩
  · intro H1 s1 hD1
    rw [foldl_putK _ _ _ _ ok.nd (fun _ _ z => by cases z), List.nil_append] at hD1
    refine ⟨_, rfl, _, e, rfl, Dp.same s1 _ hE, ok.guests, fun H2 v s2 hv => ?_⟩
    obtain ⟨S, rfl, hS⟩ := dL_at hv
    refine ⟨sz2, fun t ht => ?_⟩
    have s3 := (s1.trans s2).new ht (o := .tup [.ref D, .ref S])
    refine ⟨t, _, rfl, .inl (.inl upd_same), rfl, _, _, rfl, _, _, rfl, rfl, ?_⟩
    refine ⟨_, rfl, p, _, 0, _, rfl, rfl, s3.sqt hp, rfl, a, rfl, ⟨_, s3.sqt ha⟩, fun D2 hD2 => ?_⟩
    have hS3 := (same_new ht (o := .tup [.ref D, .ref S])).seq hS
    have hD3 : (upd H2 t (.tup [.ref D, .ref S])) D = some (.dK (hasD way)) := by
      rw [upd_ne (ne_of_none (s2 _ _ hD1) ht)]
      exact s2 _ _ hD1
    refine lc_dat (K := K) e.rack (fun c => if (!decide (hasG way c = c) || !decide (c ∈ e.seekers)) then some (.str c) else none) (walkS (K := K) e.rack) (fun c d h => ?_) (sz100 (by have := ok.rack; omega)) hD2 (fun H' z => (s3.trans z).sqt ha) ?_ ?_
    · rw [some_if (p := fun c => (!decide (hasG way c = c) || !decide (c ∈ e.seekers))) h]
      rfl
    · rintro i c x _ H4 W N ec s4 ⟨rfl, u, eu, rfl⟩ kW kN
      rw [ec] at eu
      cases eu
      refine ⟨rfl, ?_⟩
      have hm := ok.all c (List.mem_iff_getElem?.mpr ⟨i, ec⟩)
      refine ⟨_, rfl, _, rfl, D, _, rfl, dget_has (s4 _ _ hD3) hm, _, rfl, rd_ne ⟨_, rfl, ?_⟩⟩
      refine ite2 (fun z => ⟨_, rfl, kW _ _ _ (fun _ _ h => h) (by rw [if_pos (by rw [z]; rfl)]) (.str c)⟩) (fun z => ?_)
      refine ⟨_, rfl, _, rfl, rd_nin (.inl (s4.seq hS3)) ⟨_, rfl, ?_⟩⟩
      refine ite2 (fun y => ⟨_, rfl, kW _ _ _ (fun _ _ h => h) (by rw [if_pos (by rw [y, Bool.or_true])]) (.str c)⟩) (fun y => kN _ (fun _ _ h => h) ?_)
      rw [if_neg]
      rw [Bool.eq_false_iff.mpr y, Bool.eq_false_iff.mpr z]
      decide
    · intro H4 zs s4 h1 h2
      exact k _ _ (s3.trans s4) (.lst (SqL.of h1) (dL_filter h2))
theorem walkRev {a : Addr} (us : List Str) : Walk (RT.ItvT K a us.length) us.reverse.length (fun H => SqT K H a (us.map V.str)) (fun i H x H' => H' = H ∧ ∃ u, us.reverse[i]? = some u ∧ x = .str u) := by
  rw [List.length_reverse]
  refine ⟨fun i H hi q => ⟨hi, _, .str us[us.length - 1 - i], q, by simp [show us.length - 1 - i < us.length by omega]⟩, fun H q => Nat.le_refl _, fun i H x H' hi q y => ⟨y.1, us[us.length - 1 - i], ?_, ?_⟩⟩
  · rw [List.getElem?_reverse hi]
    exact List.getElem?_eq_getElem _
  · have h := y.2 _ q
    rw [List.getElem?_map, List.getElem?_eq_getElem (by omega)] at h
    exact (Option.some.inj h).symm
theorem rd_later {H : Hp} {σ : L2.St} {D : Ends} {u : Str} {S d : Addr} {way : List PP} {fs : List Str} (h2 : σ[2]? = some (some (.str u))) (h3 : σ[3]? = some (some (.ref d))) (h4 : σ[4]? = some (some (.ref S))) (hS : SqL K H S (fs.map V.str))
    (hd : H d = some (.dK (hasD way))) (hm : u ∈ way.map Prod.snd) (k1 : u ∈ fs → D.nx (σ.set 6 (some (.str (hasG way u)))) H) (k2 : u ∉ fs → D.nx σ H) :
    tIfS (tTest (tOp (rIn K false) (tVar 2) (tVar 4))) (tAsg (tDGet (tVar 3) (tVar 2)) (gName 6)) tNext D σ H := by
  refine ⟨_, h2, _, h4, rd_in (.inl hS) ⟨_, rfl, ?_⟩⟩
  refine ite2 (fun q => ⟨_, h3, _, h2, d, _, rfl, dget_has hd hm, k1 (of_decide_eq_true q)⟩) (fun q => k2 (fun z => q (decide_eq_true z)))
/-! ### needs -/
def sp_needs (K : PySem.W.Frag) : Sp := fun vs H Q _ => ∃ (ev wv : V) (e : Ev) (way : List PP), vs = [ev, wv] ∧ Dp K H ev (dE e) ∧ Dp K H wv (dTP way) ∧ WayOk e way ∧ e.whyNot way = none ∧
  ∀ H' v, Same H H' → LL K H' v ((e.needs way).map dP) → Q v H'
theorem sc_needs : FnScope ["evening", "way", "coat", "has", "ahead", "found", "later", "guest"] ["evening", "way"] (defScope s_needs) := ⟨rfl, rfl, rfl, by decide +kernel, rfl, by decide +kernel, by decide +kernel⟩
theorem ok_needs (T : Tx K mg) : FnOk P w K mg base CX0 6 (He.ga K "needs") T.fd_needs ["evening", "way"] (sp_needs K) := by
  refine T.F_needs.ok sc_needs (fun vs H Q E h => ?_) (fun cdv A outer s H vs Q E hr h => ?_)
  · obtain ⟨ev, wv, e, way, rfl, _⟩ := h
    rfl
  obtain ⟨ev, wv, e, way, rfl, hE, hW, ok, why, k⟩ := h
  refine ⟨_, PSs.nox (pss_cons (ps_expr (pe_call (ok_look_way T) (hr.mono (by decide)) rfl T.g_look_way T.F_look_way.kp T.b_look_way .nil pass0 (pa_cons (pv 0) (pa_cons (pv 1) pa_nil))))
      (pss_cons (ps_par (i := 3) (j := 4) rfl sc_needs.nd rfl rfl (by decide) rfl rfl (pa_cons (pe_dc (own := [("guest", 7), ("coat", 2)]) (g := gTup K 2 (gCons (gName 7) (gCons (gName 2) gNil))) rfl sc_needs.nd (pi_tup (pv 1)) (blkOk_by (own := [("guest", 7), ("coat", 2)]) (N := ["evening", "way", "coat", "has", "ahead", "found", "later", "guest"]) (sc := defScope s_needs) (by decide +kernel)) (fun _ _ _ _ _ => (pg_tup rfl (pgs_cons (pg_name (i := 7) sc_needs.nd rfl (Or.inl rfl)) (pgs_cons (pg_name (i := 2) sc_needs.nd rfl (Or.inl rfl)) pgs_nil)))) (fun _ _ _ _ _ => pts_nil) (fun _ _ _ _ _ => (pv 2)) (fun _ _ _ _ _ => (pv 7))) (pa_cons (pe_call (ok_firsts T) (hr.mono (by decide)) rfl T.g_firsts T.F_firsts.kp T.b_firsts .nil pass0 (pa_cons (pv 0) (pa_cons (pv 1) pa_nil))) pa_nil)) rfl)
      (pss_cons (ps_par (i := 5) (j := 6) rfl sc_needs.nd rfl rfl (by decide) rfl rfl (pa_cons (pe_lst pa_nil) (pa_cons pe_non pa_nil)) rfl)
      (pss_cons (ps_for PassesOwn.never rfl (RT.pi_revA (by rfl) T.n_reversed (pe_ix ix_tup (pv 0) pe_int (fun _ _ => rfl))) (pg_name (i := 2) sc_needs.nd rfl (Or.inl rfl)) (pss_cons (ps_if (pt_cmpR op_notN (pv 6) pe_non (nomark _)) (pss_one (ps_expr (pe_bm PySem.F.plainAttrs_list PySem.F.slot_list_append PySem.F.type_list_append mt_append (pv 5) (pa_cons (pe_tup (pa_cons (pe_dget (hu_of hr) (pv 3) (pv 2) (fun _ _ => rfl)) (pa_cons (pv 6) pa_nil))) pa_nil)))) pss_nil)
      (pss_one (ps_if (pt_cmpR op_in_seq (pv 2) (pv 4) rfl) (pss_one (ps_set (i := 6) sc_needs.nd rfl (Or.inl rfl) (pe_dget (hu_of hr) (pv 3) (pv 2) (fun _ _ => rfl)))) pss_nil))))
      (pss_one (ps_ret (pe_callB (cr_sortedPS hr) (by rfl) T.n_sorted (by decide +kernel) (pa_cons (pv 5) pa_nil)))))))), ?_⟩
  obtain ⟨q, ws, rfl, hq, hws⟩ := dTP_at hW
  obtain ⟨p, a, b, l, rfl, hp, ha, hb, hl⟩ := dE_at hE
  refine ⟨_, rfl, _, rfl, _, _, e, way, rfl, hE, hW, ok.len, ok.sub, ok.rack, why, fun H0 s0 => ?_⟩
  refine ⟨_, rfl, q, rfl, ⟨_, s0.sqt hq⟩, fun D hD => ?_⟩
  refine dc_dat way Prod.snd (fun p => .str p.1) (walkTP hws) (sz100 (by have := ok.len; omega)) hD (fun H' z => (s0.trans z).sqt hq) ?_ ?_
  · rintro i p x H1 _ W N ep s1 ⟨rfl, ex⟩ kW
    obtain ⟨t, rfl, ht⟩ := dP_at (Dp.same (s0.trans s1) _ (hws.at_map ep ex))
    refine ⟨t, _, rfl, ht, rfl, _, _, rfl, _, _, rfl, rfl, rfl, ?_⟩
    exact ⟨_, rfl, _, rfl, kW _ (fun _ _ h => h)⟩
  · intro H1 s1 hD1
    rw [foldl_putK _ _ _ _ ok.nd (fun _ _ z => by cases z), List.nil_append] at hD1
    have s01 := s0.trans s1
    refine ⟨_, rfl, _, rfl, _, _, e, way, rfl, Dp.same s01 _ hE, Dp.same s01 _ hW, ok, fun H2 v s2 hv => ?_⟩
    obtain ⟨S, rfl, hS⟩ := dL_at hv
    refine ⟨_, _, rfl, by decide, fun F hF => ⟨_, _, rfl, ?_⟩⟩
    have s02 := s01.trans s2
    have hD2 := s2 _ _ hD1
    refine ⟨_, rfl, p, _, 0, _, rfl, rfl, (s02.new hF).sqt hp, rfl, a, _, rfl, .inr ⟨(s02.new hF).sqt ha, ?_⟩⟩
    rw [List.length_map]
    refine for_it (walkRev e.rack) (fun i σ H' => ∃ (later : Option Str) (found : List PP) (zs : List V) (y z : Option V), σ = [some (.ref p), some (.ref q), y, some (.ref D), some (.ref S), some (.ref F), some (optS later), z] ∧
      Same H2 H' ∧ H' F = some (.lst zs) ∧ DpAll K H' zs (found.map dP) ∧ found.length ≤ i ∧
      needsGo way (e.firsts way) e.rack.reverse none = found ++ needsGo way (e.firsts way) (e.rack.reverse.drop i) later)
      ⟨none, [], [], _, _, rfl, same_new hF, upd_same, .nil, Nat.le_refl _, rfl⟩ (fun i σ H' _ ⟨_, _, _, _, _, _, h, _⟩ => (s02.trans h).sqt ha) ?_ ?_
    · rintro i x σ _ H4 hi ⟨later, found, zs, y, z, rfl, s4, h3, h4, h5, h6⟩ ⟨rfl, u, eu, rfl⟩
      have hm : u ∈ way.map Prod.snd := ok.all u (List.mem_reverse.mp (List.mem_iff_getElem?.mpr ⟨i, eu⟩))
      rw [drop_get eu] at h6
      cases later with
      | none =>
        refine ⟨_, rfl, rfl, _, rfl, ?_⟩
        refine rd_later rfl rfl rfl (s4.seq hS) (s4 _ _ hD2) hm (fun hu => ?_) (fun hu => ?_)
        · exact ⟨some (hasG way u), found, zs, _, _, rfl, s4, h3, h4, by omega, by rw [h6]; simp only [needsGo, if_pos hu, List.nil_append]⟩
        · exact ⟨none, found, zs, _, _, rfl, s4, h3, h4, by omega, by rw [h6]; simp only [needsGo, if_neg hu, List.nil_append]⟩
      | some w0 =>
        refine ⟨_, rfl, rfl, _, rfl, ?_⟩
        refine ⟨_, rfl, .inl ⟨rfl, _, SqL.of h3⟩, _, rfl, _, rfl, D, _, rfl, dget_has (s4 _ _ hD2) hm, _, rfl, sz2, fun t ht => ?_⟩
        obtain ⟨h3', h7⟩ := app_pair (x := hasG way u) (y := w0) h3 h4 ht
        have s5 : Same H2 (upd (upd H4 t (.tup [.str (hasG way u), .str w0])) F (.lst (zs ++ [.ref t]))) := (s4.new ht).mut hF
        have h8 : (found ++ [(hasG way u, w0)]).length ≤ i + 1 := by rw [List.length_append]; exact Nat.succ_le_succ h5
        refine ⟨F, zs, _, rfl, rfl, h3', ?_, ?_⟩
        · have e1 := h4.length
          rw [List.length_map] at e1
          have e2 := ok.rack
          rw [List.length_reverse] at hi
          exact sz100 (by omega)
        · refine rd_later rfl rfl rfl (s5.seq hS) (s5 _ _ hD2) hm (fun hu => ?_) (fun hu => ?_)
          · exact ⟨some (hasG way u), _, _, _, _, rfl, s5, upd_same, h7, h8, by rw [h6]; simp only [needsGo, if_pos hu, List.append_assoc]⟩
          · exact ⟨some w0, _, _, _, _, rfl, s5, upd_same, h7, h8, by rw [h6]; simp only [needsGo, if_neg hu, List.append_assoc]⟩
    · rintro σ H4 ⟨later, found, zs, y, z, rfl, s4, h3, h4, h5, h6⟩
      rw [List.drop_length] at h6
      have h7 : needsGo way (e.firsts way) e.rack.reverse none = found := by rw [h6]; simp [needsGo]
      refine ⟨_, rfl, F, found, rfl, .lst (SqL.of h3) h4, fun r ys hr2 hys => ?_⟩
      refine k _ _ ((s02.trans s4).new hr2) ⟨r, ys, rfl, upd_same, ?_⟩
      unfold Ev.needs
      rw [h7]
      exact DpAll.same (same_new hr2) _ hys
end
end WC
namespace WC
open PySem PySem.Spec PyProof.Rows L2
/-! the words an order has -/
def hasWords (order : List Str) (words : List PP) : Bool := words.all fun p => decide (order.idxOf p.1 < order.idxOf p.2)
def placeD (order : List Str) : List (Key × V) := order.map fun g => (.inr g, .int (order.idxOf g : Nat))
theorem valV_map {β : Type} (kf : β → Str) (vf : β → V) (c : Str) : ∀ {l : List β} {b : β}, (l.map kf).Nodup → b ∈ l → kf b = c → valV (l.map fun b => ((.inr (kf b) : Key), vf b)) (.inr c) = some (vf b)
  | [], _, _, h, _ => by cases h
  | a :: l, b, nd, h, e => by
    obtain ⟨hn, nd'⟩ := List.nodup_cons.mp (by simpa using nd : (kf a :: l.map kf).Nodup)
    rw [List.map_cons]
    rcases List.mem_cons.mp h with z | z
    · subst z
      rw [valV_pos (by simp [e])]
    · have ne : ¬ kf a = c := fun q => hn (by rw [q, ← e]; exact List.mem_map.mpr ⟨b, z, rfl⟩)
      rw [valV_neg (by simpa using ne)]
      exact valV_map kf vf c nd' z e
theorem dget_place {H : Hp} {D : Addr} {order : List Str} {c : Str} (nd : order.Nodup) (hD : H D = some (.dK (placeD order))) (hc : c ∈ order) : DGet H D (.str c) (some (.int (order.idxOf c : Nat))) := by
  have h := DGet.k (k := .inr c) hD
  have h2 := valV_map (fun g : Str => g) (fun g => V.int (order.idxOf g : Nat)) c (by simpa using nd) hc rfl
  unfold placeD at h
  rw [h2] at h
  exact h
section
variable {P : Program} {w : World} {K : PySem.W.Frag} {mg : Str → Option Value} {base : Heap}
/-! ### has_words -/
def sp_has_words (K : PySem.W.Frag) : Sp := fun vs H Q _ => ∃ (ov wv : V) (order : List Str) (words : List PP), vs = [ov, wv] ∧ Dp K H ov (dT order) ∧ Dp K H wv (dLP words) ∧ order.Nodup ∧ order.length ≤ 100 ∧ words.length ≤ 1000 ∧
  (∀ p ∈ words, p.1 ∈ order ∧ p.2 ∈ order) ∧ ∀ H', Same H H' → Q (.bl (hasWords order words)) H'
theorem sc_has_words : FnScope ["order", "words", "places", "place", "guest", "other"] ["order", "words"] (defScope s_has_words) := ⟨rfl, rfl, rfl, by decide +kernel, rfl, by decide +kernel, by decide +kernel⟩
theorem ok_has_words (T : Tx K mg) : FnOk P w K mg base CX0 1 (He.ga K "has_words") T.fd_has_words ["order", "words"] (sp_has_words K) := by
  refine T.F_has_words.ok sc_has_words (fun vs H Q E h => ?_) (fun cdv A outer s H vs Q E hr h => ?_)
  · obtain ⟨ov, wv, order, words, rfl, _⟩ := h
    rfl
  obtain ⟨ov, wv, order, words, rfl, hO, hW, nd, h1, h2, h3, k⟩ := h
  refine ⟨_, PSs.nox (pss_cons (ps_set (i := 2) sc_has_words.nd rfl (Or.inr rfl) (pe_dc (own := [("place", 3), ("guest", 4)]) (g := gTup K 2 (gCons (gName 3) (gCons (gName 4) gNil))) rfl sc_has_words.nd (pi_enumT (by rfl) T.n_enumerate (pa_cons (pv 0) pa_nil)) (blkOk_by (own := [("place", 3), ("guest", 4)]) (N := ["order", "words", "places", "place", "guest", "other"]) (sc := defScope s_has_words) (by decide +kernel)) (fun _ _ _ _ _ => (pg_tup rfl (pgs_cons (pg_name (i := 3) sc_has_words.nd rfl (Or.inl rfl)) (pgs_cons (pg_name (i := 4) sc_has_words.nd rfl (Or.inl rfl)) pgs_nil)))) (fun _ _ _ _ _ => pts_nil) (fun _ _ _ _ _ => (pv 4)) (fun _ _ _ _ _ => (pv 3))))
      (pss_one (ps_ret (pe_callB (cr_all rfl) (by rfl) T.n_all (by decide +kernel) (pa_cons (pe_lc (own := [("guest", 4), ("other", 5)]) (g := gTup K 2 (gCons (gName 4) (gCons (gName 5) gNil))) rfl sc_has_words.nd (pi_list (pv 1)) (blkOk_by (own := [("guest", 4), ("other", 5)]) (N := ["order", "words", "places", "place", "guest", "other"]) (sc := defScope s_has_words) (by decide +kernel)) (fun _ _ _ _ _ => (pg_tup rfl (pgs_cons (pg_name (i := 4) sc_has_words.nd rfl (Or.inl rfl)) (pgs_cons (pg_name (i := 5) sc_has_words.nd rfl (Or.inl rfl)) pgs_nil)))) (fun _ _ _ _ _ => pts_nil) (fun _ _ _ _ _ => (pe_cmpR op_lt (pe_dget (hu_of hr) (pv 2) (pv 4) (fun _ _ => rfl)) (pe_dget (hu_of hr) (pv 2) (pv 5) (fun _ _ => rfl)) (nomark _)))) pa_nil))))), ?_⟩
  obtain ⟨q, rfl, hq⟩ := dT_at hO
  obtain ⟨l, ws, rfl, hl, hws⟩ := dLP_at hW
  refine ⟨_, rfl, q, _, rfl, hq, fun D hD => ?_⟩
  refine dc_dat order (fun g => g) (fun g => .int (order.idxOf g : Nat)) (walkEn order) (sz100 (by omega)) hD (fun H' z => z.sqt hq) ?_ ?_
  · rintro i g x H1 _ W N eg s1 ⟨t, u, rfl, ht, rfl, eu⟩ kW
    rw [eg] at eu
    cases eu
    refine ⟨t, _, rfl, .inl (.inl upd_same), rfl, _, _, rfl, _, _, rfl, rfl, rfl, ?_⟩
    have e : order.idxOf g = i := idxOf_at nd eg
    have kk := kW _ (same_new ht (o := .tup [.int (i : Nat), .str g]))
    rw [e] at kk
    exact ⟨_, rfl, _, rfl, kk⟩
  · intro H1 s1 hD1
    rw [foldl_putK _ _ _ _ (by simpa using nd) (fun _ _ z => by cases z), List.nil_append] at hD1
    refine ⟨_, rfl, l, rfl, ⟨_, s1.seq hl⟩, fun R hR => ?_⟩
    refine lc_dat (K := K) words (fun p => some (.bool (decide (order.idxOf p.1 < order.idxOf p.2)))) (walkLP hws) (fun p d h => by cases h; rfl) (sz100 h2) hR (fun H' z => (s1.trans z).seq hl) ?_ ?_
    · rintro i p x H2 _ W N ep s2 ⟨rfl, ex⟩ kW kN
      obtain ⟨t, rfl, ht⟩ := dP_at (Dp.same (s1.trans s2) _ (hws.at_map ep ex))
      refine ⟨t, _, rfl, ht, rfl, _, _, rfl, _, _, rfl, rfl, rfl, ?_⟩
      obtain ⟨m1, m2⟩ := h3 p (List.mem_iff_getElem?.mpr ⟨i, ep⟩)
      have hD2 := s2 _ _ hD1
      refine ⟨_, rfl, _, rfl, D, _, rfl, dget_place nd hD2 m1, _, rfl, _, rfl, D, _, rfl, dget_place nd hD2 m2, ?_⟩
      refine rd_I0 (kW _ _ _ (fun _ _ h => h) rfl ?_)
      rw [decide_eq_decide.mpr (show order.idxOf p.1 < order.idxOf p.2 ↔ ((order.idxOf p.1 : Nat) : Int) < ((order.idxOf p.2 : Nat) : Int) by omega)]
      exact .bl _
    · intro H2 zs s2 e1 e2
      have e3 := bools_fm (fun p : PP => decide (order.idxOf p.1 < order.idxOf p.2)) e2
      subst e3
      refine ⟨R, _, rfl, SqL.of e1, ?_⟩
      have kk := k _ (s1.trans s2)
      unfold hasWords at kk
      rw [List.all_map]
      exact kk
/-! ### pairs_of -/
def Ev.pairs (e : Ev) (way words : List PP) : List PP := e.needs way ++ words
def sp_pairs_of (K : PySem.W.Frag) : Sp := fun vs H Q _ => ∃ (ev wv lv : V) (e : Ev) (way words : List PP), vs = [ev, wv, lv] ∧ Dp K H ev (dE e) ∧ Dp K H wv (dTP way) ∧ Dp K H lv (dLP words) ∧ WayOk e way ∧ e.whyNot way = none ∧ words.length ≤ 1000 ∧
  ∀ H' v, Same H H' → LL K H' v ((e.pairs way words).map dP) → Q v H'
theorem needsGo_len (way : List PP) (fs : List Str) : ∀ (cs : List Str) (l : Option Str), (needsGo way fs cs l).length ≤ cs.length
  | [], _ => Nat.le_refl _
  | c :: cs, l => by
    have ih := needsGo_len way fs cs (if c ∈ fs then some (hasG way c) else l)
    unfold needsGo
    rw [List.length_append, List.length_cons]
    cases l with
    | none => simp; omega
    | some x => simp; omega
theorem needs_len {e : Ev} {way : List PP} (ok : WayOk e way) : (e.needs way).length ≤ 100 := by
  unfold Ev.needs
  rw [List.length_mergeSort]
  have := needsGo_len way (e.firsts way) e.rack.reverse none
  rw [List.length_reverse] at this
  exact Nat.le_trans this ok.rack
theorem sc_pairs_of : FnScope ["evening", "way", "words", "guest", "other"] ["evening", "way", "words"] (defScope s_pairs_of) := ⟨rfl, rfl, rfl, by decide +kernel, rfl, by decide +kernel, by decide +kernel⟩
theorem ok_pairs_of (T : Tx K mg) : FnOk P w K mg base CX0 7 (He.ga K "pairs_of") T.fd_pairs_of ["evening", "way", "words"] (sp_pairs_of K) := by
  refine T.F_pairs_of.ok sc_pairs_of (fun vs H Q E h => ?_) (fun cdv A outer s H vs Q E hr h => ?_)
  · obtain ⟨ev, wv, lv, e, way, words, rfl, _⟩ := h
    rfl
  obtain ⟨ev, wv, lv, e, way, words, rfl, hE, hW, hL, ok, why, h2, k⟩ := h
  refine ⟨_, PSs.nox (pss_one (ps_ret (pe_op op_cat (pe_call (ok_needs T) (hr.mono (by decide)) rfl T.g_needs T.F_needs.kp T.b_needs .nil pass0 (pa_cons (pv 0) (pa_cons (pv 1) pa_nil))) (pe_lc (own := [("guest", 3), ("other", 4)]) (g := gTup K 2 (gCons (gName 3) (gCons (gName 4) gNil))) rfl sc_pairs_of.nd (pi_list (pv 2)) (blkOk_by (own := [("guest", 3), ("other", 4)]) (N := ["evening", "way", "words", "guest", "other"]) (sc := defScope s_pairs_of) (by decide +kernel)) (fun _ _ _ _ _ => (pg_tup rfl (pgs_cons (pg_name (i := 3) sc_pairs_of.nd rfl (Or.inl rfl)) (pgs_cons (pg_name (i := 4) sc_pairs_of.nd rfl (Or.inl rfl)) pgs_nil)))) (fun _ _ _ _ _ => pts_nil) (fun _ _ _ _ _ => (pe_tup (pa_cons (pv 3) (pa_cons (pv 4) pa_nil)))))))), ?_⟩
  obtain ⟨l, ws, rfl, hl, hws⟩ := dLP_at hL
  refine ⟨_, rfl, _, rfl, _, _, e, way, rfl, hE, hW, ok, why, fun H1 v s1 hv => ?_⟩
  refine ⟨_, rfl, l, rfl, ⟨_, s1.seq hl⟩, fun R hR => ?_⟩
  refine lc_dat (K := K) words (fun p => some (dP p)) (walkLP hws) (fun p d h => by cases h; rfl) (sz100 h2) hR (fun H' z => (s1.trans z).seq hl) ?_ ?_
  · rintro i p x H2 _ W N ep s2 ⟨rfl, ex⟩ kW kN
    obtain ⟨t, rfl, ht⟩ := dP_at (Dp.same (s1.trans s2) _ (hws.at_map ep ex))
    refine ⟨t, _, rfl, ht, rfl, _, _, rfl, _, _, rfl, rfl, rfl, ?_⟩
    exact ⟨_, rfl, _, rfl, sz2, fun u hu => kW _ _ _ (same_new hu) rfl (dP_of (.inl (.inl upd_same)))⟩
  · intro H2 zs s2 e1 e2
    rw [filterMap_all] at e2
    refine rd_cat (hv.same s2) ⟨R, zs, rfl, e1, e2⟩ (by have := needs_len ok; simp; omega) fun H3 v3 s3 hv3 => k _ _ ((s1.trans s2).trans s3) ?_
    unfold Ev.pairs
    rw [List.map_append]
    exact hv3
end
end WC
namespace WC
open PySem PySem.Spec PyProof.Rows L2
theorem ix_listK (K : PySem.W.Frag) {X : Cx} (h : X.K = K) : IxR X (rIxL K) := h ▸ ix_list
theorem ix_tupK (K : PySem.W.Frag) {X : Cx} (h : X.K = K) : IxR X (rIxT K) := h ▸ ix_tup
theorem nodup_len {α : Type} [DecidableEq α] : ∀ {l m : List α}, l.Nodup → (∀ x ∈ l, x ∈ m) → l.length ≤ m.length
  | [], _, _, _ => Nat.zero_le _
  | a :: l, m, nd, sub => by
    obtain ⟨hn, nd'⟩ := List.nodup_cons.mp nd
    have ha := sub a List.mem_cons_self
    have ih := nodup_len (l := l) (m := m.erase a) nd' fun x hx => (List.mem_erase_of_ne (fun z => hn (by rw [← z]; exact hx))).mpr (sub x (List.mem_cons_of_mem _ hx))
    rw [List.length_erase_of_mem ha] at ih
    have := List.length_pos_of_mem ha
    rw [List.length_cons]
    omega
section
variable {K : PySem.W.Frag} {H : Hp} {Q : VK} {x y : V} {β : Type} [DecidableEq β] {enc : β → PyData} {a b : β} {bs : List β}
theorem dec_swap {p : Prop} {R : Bool → Prop} (i j : Decidable p) (k : R (@decide p i)) : R (@decide p j) := by
  have e : @decide p i = @decide p j := decide_eq_decide.mpr Iff.rfl
  rw [← e]
  exact k
theorem rd_inB [i : Decidable (a ∈ bs)] (h1 : Dp K H x (enc a)) (h2 : Dp K H y (.list (bs.map enc))) (k : Q (.bl (@decide (a ∈ bs) i)) H) : rInB K enc false x y H Q :=
  ⟨a, bs, h1, h2, by rw [if_neg Bool.false_ne_true]; exact dec_swap (R := fun c => Q (.bl c) H) _ _ k⟩
theorem rd_ninB [i : Decidable (a ∈ bs)] (h1 : Dp K H x (enc a)) (h2 : Dp K H y (.list (bs.map enc))) (k : Q (.bl (!@decide (a ∈ bs) i)) H) : rInB K enc true x y H Q :=
  ⟨a, bs, h1, h2, by rw [if_pos rfl]; exact dec_swap (R := fun c => Q (.bl (!c)) H) _ _ k⟩
theorem rd_eqB [i : Decidable (a = b)] (h1 : Dp K H x (enc a)) (h2 : Dp K H y (enc b)) (k : Q (.bl (@decide (a = b) i)) H) : rEqB K enc false x y H Q :=
  ⟨a, b, h1, h2, by rw [if_neg Bool.false_ne_true]; exact dec_swap (R := fun c => Q (.bl c) H) _ _ k⟩
theorem rd_neB [i : Decidable (a = b)] (h1 : Dp K H x (enc a)) (h2 : Dp K H y (enc b)) (k : Q (.bl (!@decide (a = b) i)) H) : rEqB K enc true x y H Q :=
  ⟨a, b, h1, h2, by rw [if_pos rfl]; exact dec_swap (R := fun c => Q (.bl (!c)) H) _ _ k⟩
end
end WC
namespace WC
open PySem PySem.Spec PyProof.Rows L2
def IsPath (pairs : List PP) (path : List Str) : Prop := ∀ i a b, path[i]? = some a → path[i + 1]? = some b → (b, a) ∈ pairs
def RingOf (pairs : List PP) (ring : List Str) : Prop := ∃ init last, init.Nodup ∧ last ∈ init ∧ IsPath pairs (init ++ [last]) ∧ ring = ((init ++ [last]).drop ((init ++ [last]).idxOf last + 1)).reverse
theorem IsPath.snoc {pairs : List PP} {init : List Str} {last x : Str} (h : IsPath pairs (init ++ [last])) (hx : (x, last) ∈ pairs) : IsPath pairs (init ++ [last] ++ [x]) := by
  intro i a b ha hb
  by_cases q : i + 1 < (init ++ [last]).length
  · rw [List.getElem?_append_left (by omega)] at ha
    rw [List.getElem?_append_left q] at hb
    exact h i a b ha hb
  · have hi : i + 1 < (init ++ [last] ++ [x]).length := (List.getElem?_eq_some_iff.mp hb).1
    have e1 : (init ++ [last] ++ [x]).length = init.length + 2 := by simp
    have e2 : (init ++ [last]).length = init.length + 1 := by simp
    have e : i = init.length := by omega
    subst e
    rw [List.getElem?_append_right (by omega), e2, Nat.sub_self] at hb
    rw [List.append_assoc, List.getElem?_append_right (Nat.le_refl _), Nat.sub_self] at ha
    have eb : x = b := by simpa using hb
    have ea : last = a := by simpa using ha
    subst eb ea
    exact hx
section
variable {P : Program} {w : World} {K : PySem.W.Frag} {mg : Str → Option Value} {base : Heap}
/-! ### ring_of -/
def sp_ring_of (K : PySem.W.Frag) : Sp := fun vs H Q _ => ∃ (lv prv : V) (left : List Str) (pairs : List PP), vs = [lv, prv] ∧ Dp K H lv (dL left) ∧ Dp K H prv (dLP pairs) ∧ left ≠ [] ∧ left.length ≤ 100 ∧ pairs.length ≤ 2000 ∧
  (∀ g ∈ left, ∃ x, (x, g) ∈ pairs ∧ x ∈ left) ∧ ∀ H' p ring, Same H H' → TupK H' p (ring.map V.str) → RingOf pairs ring → Q (.ref p) H'
theorem sc_ring_of : FnScope ["left", "pairs", "path", "guest", "other"] ["left", "pairs"] (defScope s_ring_of) := ⟨rfl, rfl, rfl, by decide +kernel, rfl, by decide +kernel, by decide +kernel⟩
theorem ok_ring_of (T : Tx K mg) : FnOk P w K mg base CX0 1 (He.ga K "ring_of") T.fd_ring_of ["left", "pairs"] (sp_ring_of K) := by
  refine T.F_ring_of.ok sc_ring_of (fun vs H Q E h => ?_) (fun cdv A outer s H vs Q E hr h => ?_)
  · obtain ⟨lv, prv, left, pairs, rfl, _⟩ := h
    rfl
  obtain ⟨lv, prv, left, pairs, rfl, hL, hP, ne, h1, h2, hpre, k⟩ := h
  refine ⟨_, PSs.nox (pss_cons (ps_set (i := 2) sc_ring_of.nd rfl (Or.inr rfl) (pe_lst (pa_cons (pe_ix ix_list (pv 0) pe_int (fun _ _ => rfl)) pa_nil)))
      (pss_cons (ps_while PassesOwn.never (pt_cmpR op_notIn_seq (pe_ix ix_list (pv 2) (pe_un un_neg pe_int) (fun _ _ => rfl)) (pe_slice sl_list (pv 2) po_none (po_some (pe_un un_neg pe_int))) rfl) (pss_one (ps_expr (pe_bm PySem.F.plainAttrs_list PySem.F.slot_list_append PySem.F.type_list_append mt_append (pv 2) (pa_cons (pe_ix ix_list (pe_lc (own := [("guest", 3), ("other", 4)]) (g := gTup K 2 (gCons (gName 3) (gCons (gName 4) gNil))) rfl sc_ring_of.nd (pi_list (pv 1)) (blkOk_by (own := [("guest", 3), ("other", 4)]) (N := ["left", "pairs", "path", "guest", "other"]) (sc := defScope s_ring_of) (by decide +kernel)) (fun _ _ _ _ _ => (pg_tup rfl (pgs_cons (pg_name (i := 3) sc_ring_of.nd rfl (Or.inl rfl)) (pgs_cons (pg_name (i := 4) sc_ring_of.nd rfl (Or.inl rfl)) pgs_nil)))) (fun _ _ _ _ _ => pts_one (PW.pt (pw_and (pt_cmpR op_eq (pv 4) (pe_ix (ix_listK K rfl) (pv 2) (pe_un un_neg pe_int) (fun _ _ => rfl)) (nomark _)) (pw_and1 (pt_cmpR (op_inK K rfl) (pv 3) (pv 0) rfl))))) (fun _ _ _ _ _ => (pv 3))) pe_int (fun _ _ => rfl)) pa_nil)))))
      (pss_one (ps_ret (pe_callTy call_tupleF (by rfl) T.n_tuple (by decide +kernel) (pa_cons (pe_revL (pe_slice sl_list (pv 2) (po_some (pe_op op_add (pe_bm PySem.F.plainAttrs_list PySem.F.slot_list_index PySem.F.type_list_index mt_indexS (pv 2) (pa_cons (pe_ix ix_list (pv 2) (pe_un un_neg pe_int) (fun _ _ => rfl)) pa_nil)) pe_int)) po_none)) pa_nil)))))), ?_⟩
  obtain ⟨l, rfl, hl⟩ := dL_at hL
  obtain ⟨q, ws, rfl, hq, hws⟩ := dLP_at hP
  obtain ⟨g0, gs, rfl⟩ : ∃ g0 gs, left = g0 :: gs := by
    cases left with
    | nil => exact absurd rfl ne
    | cons a b => exact ⟨a, b, rfl⟩
  refine ⟨_, rfl, l, _, 0, _, rfl, rfl, hl, L2.atI_nat (j := 0) rfl, by unfold sizeLine; simp, fun N hN => ?_⟩
  refine ⟨fun m σ H' => ∃ (init : List Str) (last : Str) (y z : Option V), σ = [some (.ref l), some (.ref q), some (.ref N), y, z] ∧ H' N = some (.lst ((init ++ [last]).map V.str)) ∧ Same H H' ∧ init.Nodup ∧ (∀ x ∈ init ++ [last], x ∈ g0 :: gs) ∧
    IsPath pairs (init ++ [last]) ∧ m + init.length = (g0 :: gs).length + 1, ⟨(g0 :: gs).length + 1, [], g0, _, _, rfl, upd_same, same_new hN, List.nodup_nil, fun x hx => ?_, fun i a b ha hb => ?_, rfl⟩, ?_⟩
  · have e : x = g0 := by simpa using hx
    rw [e]
    exact List.mem_cons_self
  · simp at hb
  rintro m σ H1 ⟨init, last, y, z, rfl, e1, s1, nd, sub, path, hm⟩
  have last1 : atI ((init ++ [last]).map V.str) (-1) = some (.str last) := by
    rw [List.map_append]
    exact atI_last _ _
  refine ⟨_, rfl, _, rfl, N, _, -1, _, rfl, rfl, SqL.of e1, last1, ?_⟩
  refine ⟨_, rfl, 1, rfl, -1, rfl, N, _, rfl, SqL.of e1, fun M hM => ?_⟩
  rw [cut_last, List.length_map]
  have ecut : ((init ++ [last]).map V.str).take ((init ++ [last]).length - 1) = init.map V.str := by
    rw [← List.map_take]
    simp
  rw [ecut]
  have s2 := s1.new hM (o := .lst (init.map V.str))
  have e2 : (upd H1 M (.lst (init.map V.str))) N = some (.lst ((init ++ [last]).map V.str)) := by
    rw [upd_ne (ne_of_none e1 hM)]
    exact e1
  refine rd_nin (.inl (SqL.of upd_same)) ⟨_, rfl, ?_⟩
  generalize upd H1 M (.lst (init.map V.str)) = H2 at s2 e2
  refine ite2 (fun hx => ?_) (fun hx => ?_)
  · -- one more
    have hn : last ∉ init := fun z => by simp [z] at hx
    have nd2 : (init ++ [last]).Nodup := by
      rw [List.nodup_append]
      exact ⟨nd, List.nodup_cons.mpr ⟨List.not_mem_nil, List.nodup_nil⟩, fun a ha b hb => by
        have e : b = last := by simpa using hb
        rw [e]
        exact fun z => hn (z ▸ ha)⟩
    have hlen := nodup_len nd2 sub
    rw [List.length_append] at hlen
    refine ⟨fun σ' H' => ∃ x y z, σ' = [some (.ref l), some (.ref q), some (.ref N), y, z] ∧ H' N = some (.lst ((init ++ [last] ++ [x]).map V.str)) ∧ Same H H' ∧ (x, last) ∈ pairs ∧ x ∈ g0 :: gs, ?_, ?_⟩
    · rintro σ' H' ⟨x, y, z, rfl, a1, a2, a3, a4⟩
      refine ⟨m - 1, ?_, init ++ [last], x, y, z, rfl, a1, a2, nd2, ?_, path.snoc a3, ?_⟩
      · simp at hlen
        simp at hm
        omega
      · intro u hu
        rcases List.mem_append.mp hu with h | h
        · exact sub u h
        · have e : u = x := by simpa using h
          rw [e]
          exact a4
      · simp at hlen hm ⊢
        omega
    · refine ⟨_, rfl, .inl ⟨rfl, _, SqL.of e2⟩, ?_⟩
      refine ⟨_, rfl, q, rfl, ⟨_, s2.seq hq⟩, fun D hD => ?_⟩
      refine lc_dat (K := K) pairs (fun p => if (decide (p.2 = last) && decide (p.1 ∈ g0 :: gs)) then some (.str p.1) else none) (walkLP hws) (fun p d h => ?_) (by unfold sizeLine; omega) hD (fun H' z => (s2.trans z).seq hq) ?_ ?_
      · rw [some_if (p := fun p : PP => (decide (p.2 = last) && decide (p.1 ∈ g0 :: gs))) (f := fun p : PP => PyData.str p.1) h]
        rfl
      · rintro i p x H3 _ W N2 ep s3 ⟨rfl, ex⟩ kW kN
        obtain ⟨t, rfl, ht⟩ := dP_at (Dp.same (s2.trans s3) _ (hws.at_map ep ex))
        refine ⟨t, _, rfl, ht, rfl, _, _, rfl, _, _, rfl, rfl, rfl, ?_⟩
        refine ⟨_, rfl, _, rfl, 1, rfl, N, _, -1, _, rfl, rfl, SqL.of (s3 _ _ e2), last1, rd_eq ⟨_, rfl, ?_⟩⟩
        refine ite2 (fun y1 => ?_) (fun y1 => kN _ (fun _ _ h => h) (by rw [Bool.eq_false_iff.mpr y1]; rfl))
        refine ⟨_, rfl, _, rfl, rd_in (.inl ((s2.trans s3).seq hl)) ⟨_, rfl, ?_⟩⟩
        refine ite2 (fun y2 => ⟨_, rfl, kW _ _ _ (fun _ _ h => h) (by rw [y1, y2]; rfl) (.str _)⟩) (fun y2 => kN _ (fun _ _ h => h) (by rw [y1, Bool.eq_false_iff.mpr y2]; rfl))
      · intro H3 zs s3 a1 a2
        rw [filterMap_if (fun p : PP => (decide (p.2 = last) && decide (p.1 ∈ g0 :: gs))) (fun p : PP => PyData.str p.1)] at a2
        generalize hc : (pairs.filter fun p : PP => (decide (p.2 = last) && decide (p.1 ∈ g0 :: gs))) = c at a2
        have all : ∀ p ∈ c, (p.1, last) ∈ pairs ∧ p.1 ∈ g0 :: gs := fun p hp => by
          rw [← hc] at hp
          obtain ⟨b1, b2⟩ := List.mem_filter.mp hp
          simp only [Bool.and_eq_true, decide_eq_true_eq] at b2
          refine ⟨?_, b2.2⟩
          rw [← b2.1]
          exact b1
        cases c with
        | nil =>
          obtain ⟨x, b1, b2⟩ := hpre last (sub last (by simp))
          have : (x, last) ∈ (pairs.filter fun p : PP => (decide (p.2 = last) && decide (p.1 ∈ g0 :: gs))) := List.mem_filter.mpr ⟨b1, by simpa using b2⟩
          rw [hc] at this
          cases this
        | cons p c =>
          cases a2 with
          | cons a3 a4 =>
            cases a3
            obtain ⟨b1, b2⟩ := all p List.mem_cons_self
            have e3 := s3 _ _ e2
            refine ⟨D, _, 0, _, rfl, rfl, SqL.of a1, L2.atI_nat (j := 0) rfl, ?_⟩
            refine ⟨N, _, _, rfl, rfl, e3, ?_, p.1, _, _, rfl, ?_, (s2.trans s3).mut hN, b1, b2⟩
            · rw [List.length_map, List.length_append]
              unfold sizeLine
              omega
            · rw [upd_same, List.map_append (l₁ := init ++ [last])]
              rfl
  · have hi : last ∈ init := by
      by_cases z : last ∈ init
      · exact z
      · simp [z] at hx
    refine ⟨_, rfl, _, rfl, .inl ⟨rfl, _, SqL.of e2⟩, _, rfl, 1, rfl, N, _, -1, _, rfl, rfl, SqL.of e2, last1, N, init ++ [last], last, rfl, rfl, SqL.of e2, by simp, ?_⟩
    refine ⟨_, 1, rfl, rfl, _, rfl, N, _, rfl, SqL.of e2, fun A1 hA1 => ?_⟩
    refine ⟨A1, _, rfl, SqL.of upd_same, fun A2 hA2 => ?_⟩
    refine ⟨A2, _, rfl, SqL.of upd_same, NewT.mk fun p H' s5 hp => ?_⟩
    rw [show ((init ++ [last]).idxOf last : Int) + 1 = (((init ++ [last]).idxOf last + 1 : Nat) : Int) by omega, cut_drop, ← List.map_drop, ← List.map_reverse] at hp
    exact k H' p _ (((s2.new hA1).new hA2).trans s5) hp ⟨init, last, nd, hi, path, rfl⟩
end
end WC
namespace WC
open PySem PySem.Spec PyProof.Rows L2
def waitingOf (pairs : List PP) (left : List Str) : List Str := (pairs.filter fun p => decide (p.1 ∈ left)).map Prod.snd
def freeOf (pairs : List PP) (left : List Str) : List Str := left.filter fun g => !decide (g ∈ waitingOf pairs left)
/-- the first order: the least who is free, again and again -/
inductive Ord (pairs : List PP) : List Str → List Str → Prop
  | nil : Ord pairs [] []
  | cons {left found : List Str} {x : Str} {xs : List Str} : freeOf pairs left = x :: xs → Ord pairs (left.filter fun g => !decide (g = leastS x xs)) found → Ord pairs left (leastS x xs :: found)
theorem leastS_mem : ∀ (xs : List Str) (x : Str), leastS x xs ∈ x :: xs
  | [], x => List.mem_cons_self
  | y :: xs, x => by
    unfold leastS
    rw [List.foldl_cons]
    have ih := leastS_mem xs (if y.cps.toList < x.cps.toList then y else x)
    unfold leastS at ih
    rcases List.mem_cons.mp ih with h | h
    · rw [h]
      by_cases q : y.cps.toList < x.cps.toList
      · rw [if_pos q]
        exact List.mem_cons_of_mem _ List.mem_cons_self
      · rw [if_neg q]
        exact List.mem_cons_self
    · exact List.mem_cons_of_mem _ (List.mem_cons_of_mem _ h)
section
variable {P : Program} {w : World} {K : PySem.W.Frag} {mg : Str → Option Value} {base : Heap}
/-! ### Ring.__init__ -/
def sp_Ring_init (K : PySem.W.Frag) : Sp := fun vs H Q _ => ∃ (a : Addr) (v : V), vs = [.ref a, v] ∧ H a = some (exo a (aRing K) none) ∧ ∀ dx, H dx = none → dx ≠ a → Q .non (upd (upd H dx (exd dx [("what", v)])) a (exo a (aRing K) (some dx)))
theorem sc_Ring_init : FnScope ["self", "what"] ["self", "what"] (defScope s_Ring_init) := ⟨rfl, rfl, rfl, by decide +kernel, rfl, by decide +kernel, by decide +kernel⟩
theorem ok_Ring_init (T : Tx K mg) : FnOk P w K mg base CX0 1 (aRingI K) T.fd_Ring ["self", "what"] (sp_Ring_init K) := by
  refine T.F_Ring.ok sc_Ring_init (fun vs H Q E h => ?_) (fun cdv A outer s H vs Q E hr h => ?_)
  · obtain ⟨a, v, rfl, _⟩ := h
    rfl
  obtain ⟨a, v, rfl, ha, k⟩ := h
  refine ⟨_, PSs.nox (pss_cons (ps_expr (pe_veinit (by rfl) T.n_ValueError T.vV (pa_cons (pv 0) (pa_cons pe_str pa_nil)))) (pss_one (ps_ost (pv 0) (pv 1)))), ?_⟩
  refine ⟨_, rfl, a, aRing K, _, rfl, by simp, T.oex, ha, ?_⟩
  refine ⟨_, rfl, _, rfl, a, aRing K, rfl, T.oex, T.noW, .inl ⟨ha, fun dx h1 h2 => k dx h1 h2⟩⟩
/-! ### order_by -/
def sp_order_by (K : PySem.W.Frag) : Sp := fun vs H Q E => ∃ (ev wv lv : V) (e : Ev) (way words : List PP), vs = [ev, wv, lv] ∧ Dp K H ev (dE e) ∧ Dp K H wv (dTP way) ∧ Dp K H lv (dLP words) ∧ WayOk e way ∧ e.whyNot way = none ∧ words.length ≤ 1000 ∧
  (∀ H' p found, Same H H' → TupK H' p (found.map V.str) → Ord (e.pairs way words) e.guests found → Q (.ref p) H') ∧
  (∀ H' d r ring, Same H H' → H' d = some (.xd [("what", .ref r)]) → TupK H' r (ring.map V.str) → RingOf (e.pairs way words) ring → E (.ref (aRing K)) (some d) H')
theorem sc_order_by : FnScope ["evening", "way", "words", "pairs", "left", "found", "waiting", "free", "guest", "other"] ["evening", "way", "words"] (defScope s_order_by) := ⟨rfl, rfl, rfl, by decide +kernel, rfl, by decide +kernel, by decide +kernel⟩
theorem ok_order_by (T : Tx K mg) : FnOk P w K mg base (L2.CX P w) 8 (He.ga K "order_by") T.fd_order_by ["evening", "way", "words"] (sp_order_by K) := by
  refine T.F_order_by.ok sc_order_by (fun vs H Q E h => ?_) (fun cdv A outer s H vs Q E hr h => ?_)
  · obtain ⟨ev, wv, lv, e, way, words, rfl, _⟩ := h
    rfl
  obtain ⟨ev, wv, lv, e, way, words, rfl, hE, hW, hL, ok, why, h2, k, kE⟩ := h
  refine ⟨_, (pss_cons (ps_asg (pe_tup (pa_cons (pe_call (ok_pairs_of T) (hr.mono (by decide)) rfl T.g_pairs_of T.F_pairs_of.kp T.b_pairs_of .nil pass0 (pa_cons (pv 0) (pa_cons (pv 1) (pa_cons (pv 2) pa_nil)))) (pa_cons (pe_callTy call_list_of (by rfl) T.n_list (by decide +kernel) (pa_cons (pe_ix ix_tup (pv 0) pe_int (fun _ _ => rfl)) pa_nil)) (pa_cons (pe_lst pa_nil) pa_nil)))) (pg_tup rfl (pgs_cons (pg_name (i := 3) sc_order_by.nd rfl (Or.inl rfl)) (pgs_cons (pg_name (i := 4) sc_order_by.nd rfl (Or.inr rfl)) (pgs_cons (pg_name (i := 5) sc_order_by.nd rfl (Or.inr rfl)) pgs_nil)))))
      (pss_cons (ps_while (passes_of rfl) (pt_cmpR op_gt (pe_callB call_len_seq (by rfl) T.n_len (by decide +kernel) (pa_cons (pv 4) pa_nil)) pe_int (nomark _)) (pss_cons (ps_set (i := 6) sc_order_by.nd rfl (Or.inr rfl) (pe_lc (own := [("guest", 8), ("other", 9)]) (g := gTup K 2 (gCons (gName 8) (gCons (gName 9) gNil))) rfl sc_order_by.nd (pi_list (pv 3)) (blkOk_by (own := [("guest", 8), ("other", 9)]) (N := ["evening", "way", "words", "pairs", "left", "found", "waiting", "free", "guest", "other"]) (sc := defScope s_order_by) (by decide +kernel)) (fun _ _ _ _ _ => (pg_tup rfl (pgs_cons (pg_name (i := 8) sc_order_by.nd rfl (Or.inl rfl)) (pgs_cons (pg_name (i := 9) sc_order_by.nd rfl (Or.inl rfl)) pgs_nil)))) (fun _ _ _ _ _ => pts_one (pt_cmpR (op_inK K rfl) (pv 8) (pv 4) rfl)) (fun _ _ _ _ _ => (pv 9))))
      (pss_cons (ps_setLc (i := 7) (own := [("guest", 8)]) (g := gName 8) rfl sc_order_by.nd rfl rfl (sw_true rfl rfl rfl (by decide +kernel)) (pi_list (pv 4)) (blkOk_by (own := [("guest", 8)]) (N := ["evening", "way", "words", "pairs", "left", "found", "waiting", "free", "guest", "other"]) (sc := defScope s_order_by) (by decide +kernel)) (fun _ _ _ _ _ => (pg_name (i := 8) sc_order_by.nd rfl (Or.inl rfl))) (fun _ _ _ _ _ => pts_one (pt_cmpR (op_ninK K rfl) (pv 8) (pv 6) rfl)) (fun _ _ _ _ _ => (pv 8)))
      (pss_cons (ps_if (pt_cmpR op_eq (pe_callB call_len_seq (by rfl) T.n_len (by decide +kernel) (pa_cons (pv 7) pa_nil)) pe_int (nomark _)) (pss_one (ps_raise rfl (takes_of rfl rfl rfl rfl) (pmk_oex T.oex T.iC T.tI (ok_Ring_init T) (hr.mono (by decide)) T.b_Ring .nil pass0 (by rfl) T.g_Ring (pa_cons (pe_call (ok_ring_of T) (hr.mono (by decide)) rfl T.g_ring_of T.F_ring_of.kp T.b_ring_of .nil pass0 (pa_cons (pv 4) (pa_cons (pv 3) pa_nil))) pa_nil)))) pss_nil)
      (pss_cons (ps_expr (pe_bm PySem.F.plainAttrs_list PySem.F.slot_list_append PySem.F.type_list_append mt_append (pv 5) (pa_cons (pe_callB (cr_minS rfl hr) (by rfl) T.n_min (by decide +kernel) (pa_cons (pv 7) pa_nil)) pa_nil)))
      (pss_one (ps_set (i := 4) sc_order_by.nd rfl (Or.inr rfl) (pe_lc (own := [("guest", 8)]) (g := gName 8) rfl sc_order_by.nd (pi_list (pv 4)) (blkOk_by (own := [("guest", 8)]) (N := ["evening", "way", "words", "pairs", "left", "found", "waiting", "free", "guest", "other"]) (sc := defScope s_order_by) (by decide +kernel)) (fun _ _ _ _ _ => (pg_name (i := 8) sc_order_by.nd rfl (Or.inl rfl))) (fun _ _ _ _ _ => pts_one (pt_cmpR op_ne (pv 8) (pe_ix (ix_listK K rfl) (pv 5) (pe_un un_neg pe_int) (fun _ _ => rfl)) (nomark _))) (fun _ _ _ _ _ => (pv 8))))))))))
      (pss_one (ps_ret (pe_callTy call_tupleF (by rfl) T.n_tuple (by decide +kernel) (pa_cons (pv 5) pa_nil)))))), ?_⟩
  obtain ⟨p, a, b, l, rfl, hp, ha, hb, hl⟩ := dE_at hE
  refine ⟨_, rfl, _, rfl, _, rfl, _, _, _, e, way, words, rfl, hE, hW, hL, ok, why, h2, fun H1 v s1 hv => ?_⟩
  obtain ⟨pl, ws, rfl, hpl, hws⟩ := hv
  have plen : (e.pairs way words).length ≤ 2000 := by
    unfold Ev.pairs
    rw [List.length_append]
    have := needs_len ok
    omega
  generalize e.pairs way words = pairs at k kE hws plen
  refine ⟨_, rfl, p, _, 1, _, rfl, rfl, s1.sqt hp, rfl, b, _, rfl, .inr (s1.sqt hb), fun L hL0 => ⟨by unfold sizeLine; simp, fun F hF0 => ⟨by unfold sizeLine; simp, fun t ht => ?_⟩⟩⟩
  refine ⟨t, _, rfl, .inl (.inl upd_same), rfl, _, _, rfl, _, _, rfl, _, _, rfl, rfl, ?_⟩
  have fF : H1 F = none := (same_new hL0).free hF0
  have nFL : F ≠ L := fun z => by rw [z, upd_same] at hF0; cases hF0
  have s3 := ((same_new hL0 (o := .lst (e.guests.map V.str))).new hF0 (o := .lst [])).new ht (o := .tup [.ref pl, .ref L, .ref F])
  have eF : (upd (upd (upd H1 L (.lst (e.guests.map V.str))) F (.lst [])) t (.tup [.ref pl, .ref L, .ref F])) F = some (.lst []) := by
    rw [upd_ne (ne_of_none upd_same ht)]
    exact upd_same
  have eL : (upd (upd (upd H1 L (.lst (e.guests.map V.str))) F (.lst [])) t (.tup [.ref pl, .ref L, .ref F])) L = some (.lst (e.guests.map V.str)) := by
    have q : (upd (upd H1 L (.lst (e.guests.map V.str))) F (.lst [])) L = some (.lst (e.guests.map V.str)) := by
      rw [upd_ne nFL.symm]
      exact upd_same
    rw [upd_ne (ne_of_none q ht)]
    exact q
  generalize (upd (upd (upd H1 L (.lst (e.guests.map V.str))) F (.lst [])) t (.tup [.ref pl, .ref L, .ref F])) = H2 at s3 eF eL
  refine ⟨fun m σ H' => ∃ (left found : List Str) (L : Addr) (c1 c2 c3 c4 : Option V), σ = [some (.ref p), some wv, some lv, some (.ref pl), some (.ref L), some (.ref F), c1, c2, c3, c4] ∧ m = left.length ∧ H' L = some (.lst (left.map V.str)) ∧
    H' F = some (.lst (found.map V.str)) ∧ L ≠ F ∧ Same H1 H' ∧ found.length + left.length ≤ 100 ∧ ∀ rest, Ord pairs left rest → Ord pairs e.guests (found ++ rest),
    ⟨_, e.guests, [], L, _, _, _, _, rfl, rfl, eL, eF, nFL.symm, s3, by have := ok.guests; simpa using this, fun rest h => h⟩, ?_⟩
  clear eF eL s3 ht nFL hF0 hL0 H2 t L
  rintro m σ H2 ⟨left, found, L, c1, c2, c3, c4, rfl, rfl, eL, eF, nLF, s2, hlen, inv⟩
  refine ⟨_, rfl, L, _, rfl, .inl (SqL.of eL), ?_⟩
  refine ⟨_, _, rfl, rfl, _, rfl, ?_⟩
  refine ite2 (fun q => ?_) (fun q => ?_)
  · have hne : left ≠ [] := fun z => by subst z; simp at q
    have hll : left.length ≤ 100 := by omega
    refine ⟨fun σ' H' => ∃ (left2 : List Str) (x : Str) (L2 : Addr) (c1 c2 c3 c4 : Option V), σ' = [some (.ref p), some wv, some lv, some (.ref pl), some (.ref L2), some (.ref F), c1, c2, c3, c4] ∧ left2 = (left.filter fun g => !decide (g = x)) ∧ x ∈ left ∧
      H' L2 = some (.lst (left2.map V.str)) ∧ H' F = some (.lst ((found ++ [x]).map V.str)) ∧ L2 ≠ F ∧ Same H1 H' ∧ ∀ rest, Ord pairs left2 rest → Ord pairs left (x :: rest), ?_, ?_⟩
    · rintro σ' H' ⟨left2, x, L2, d1, d2, d3, d4, rfl, rfl, hx, a1, a2, a3, a4, a5⟩
      have hlt : (left.filter fun g => !decide (g = x)).length < left.length := by
        refine List.length_filter_lt_length_iff_exists.mpr ⟨x, hx, by simp⟩
      refine ⟨_, hlt, _, found ++ [x], L2, d1, d2, d3, d4, rfl, rfl, a1, a2, a3, a4, ?_, fun rest hr => ?_⟩
      · rw [List.length_append]
        show found.length + 1 + _ ≤ 100
        omega
      · rw [List.append_assoc]
        exact inv _ (a5 rest hr)
    · have hql := s2.seq (SqL.of hpl (K := K))
      refine ⟨_, rfl, pl, rfl, ⟨_, hql⟩, fun D1 hD1 => ?_⟩
      refine lc_dat (K := K) pairs (fun p => if decide (p.1 ∈ left) then some (.str p.2) else none) (walkLP hws) (fun p d h => ?_) (by unfold sizeLine; omega) hD1 (fun H' z => z.seq hql) ?_ ?_
      · rw [some_if (p := fun p : PP => decide (p.1 ∈ left)) (f := fun p : PP => PyData.str p.2) h]
        rfl
      · rintro i x u H3 _ W N ep s3 ⟨rfl, ex⟩ kW kN
        obtain ⟨t, rfl, ht⟩ := dP_at (Dp.same (s2.trans s3) _ (hws.at_map ep ex))
        refine ⟨t, _, rfl, ht, rfl, _, _, rfl, _, _, rfl, rfl, rfl, ?_⟩
        refine ⟨_, rfl, _, rfl, rd_in (.inl (SqL.of (s3 _ _ eL))) ⟨_, rfl, ?_⟩⟩
        refine ite2 (fun y2 => ⟨_, rfl, kW _ _ _ (fun _ _ h => h) (by rw [if_pos y2]) (.str _)⟩) (fun y2 => kN _ (fun _ _ h => h) (by rw [if_neg y2]))
      · intro H3 zs s3 b1 b2
        rw [filterMap_if (fun p : PP => decide (p.1 ∈ left)) (fun p : PP => PyData.str p.2)] at b2
        have b3 := DpAll.of_strs (xs := waitingOf pairs left) (by unfold waitingOf; rw [List.map_map]; exact b2)
        subst b3
        have eL3 := s3 _ _ eL
        -- who is free
        refine ⟨_, rfl, L, rfl, ⟨_, SqL.of eL3⟩, fun D2 hD2 => ?_⟩
        refine lc_dat (K := K) left (fun g => if !decide (g ∈ waitingOf pairs left) then some (.str g) else none) (walkLS left) (fun p d h => ?_) (sz100 (by omega)) hD2 (fun H' z => z.seq (SqL.of eL3)) ?_ ?_
        · rw [some_if (p := fun g => !decide (g ∈ waitingOf pairs left)) h]
          rfl
        · rintro i g x H4 _ W N eg s4 ⟨rfl, u, eu, rfl⟩ kW kN
          rw [eg] at eu
          cases eu
          refine ⟨rfl, _, rfl, _, rfl, rd_nin (.inl (SqL.of (s4 _ _ b1))) ⟨_, rfl, ?_⟩⟩
          refine ite2 (fun y2 => ⟨_, rfl, kW _ _ _ (fun _ _ h => h) (by rw [if_pos y2]) (.str _)⟩) (fun y2 => kN _ (fun _ _ h => h) (by rw [if_neg y2]))
        · intro H4 zs s4 d1 d2
          have d3 := DpAll.of_strs (xs := freeOf pairs left) (dL_filter d2)
          subst d3
          have s24 := s3.trans s4
          refine ⟨_, rfl, D2, _, rfl, .inl (SqL.of d1), ?_⟩
          have eL4 := s4 _ _ eL3
          have eF4 := s24 _ _ eF
          have s14 := s2.trans s24
          clear d2
          generalize hf : freeOf pairs left = fr at d1 ⊢
          cases fr with
          | nil =>
            refine ⟨rfl, _, rfl, iteT ?_⟩
            refine ⟨_, rfl, _, rfl, _, _, left, pairs, rfl, .lst (SqL.of eL4) (DpAll.strs left), Dp.same s14 _ (.lst (SqL.of hpl) hws), hne, hll, plen, fun g hg => ?_, fun H5 r ring s5 hr5 hring => ?_⟩
            · have hw : g ∈ waitingOf pairs left := by
                by_cases z : g ∈ waitingOf pairs left
                · exact z
                · have : g ∈ freeOf pairs left := List.mem_filter.mpr ⟨hg, by simp [z]⟩
                  rw [hf] at this
                  cases this
              obtain ⟨x, hx, e2⟩ := List.mem_map.mp hw
              obtain ⟨m1, m2⟩ := List.mem_filter.mp hx
              refine ⟨x.1, ?_, of_decide_eq_true m2⟩
              rw [← e2]
              exact m1
            · refine ⟨by simp, fun x hx => ⟨x, .ref r, rfl, upd_same, fun dx h1 h2 => ⟨rfl, dx, [("what", .ref r)], upd_same, ?_, ?_, ?_⟩⟩⟩
              · rw [upd_ne h2]
                exact upd_same
              · rw [upd_ne h2] at h1
                exact h1
              · rw [upd_ne h2] at h1
                have s6 : Same H5 (upd (del (upd (upd (upd H5 x (exo x (aRing K) none)) dx (exd dx [("what", .ref r)])) x (exo x (aRing K) (some dx))) x) dx (.xd [("what", .ref r)])) := fun b o e => by
                  have n1 := ne_of_none e h1
                  have n2 := ne_of_none e hx
                  rw [upd_ne n1, del_ne n2, upd_ne n2, upd_ne n1, upd_ne n2]
                  exact e
                exact kE _ dx r ring (((s1.trans s14).trans s5).trans s6) upd_same (hr5.same s6) hring
          | cons x xs =>
            refine ⟨rfl, _, rfl, ?_⟩
            rw [decide_eq_false (by simp; omega)]
            refine iteF ?_
            have hm : leastS x xs ∈ left := by
              have := leastS_mem xs x
              rw [← hf] at this
              exact (List.mem_filter.mp this).1
            refine ⟨_, rfl, .inl ⟨rfl, _, SqL.of eF4⟩, ?_⟩
            refine ⟨_, rfl, D2, x, xs, rfl, SqL.of d1, F, _, _, rfl, rfl, eF4, by rw [List.length_map]; exact sz100 (by omega), ?_⟩
            have e5 : (found.map V.str ++ [V.str (leastS x xs)]) = (found ++ [leastS x xs]).map V.str := by rw [List.map_append]; rfl
            rw [e5]
            have s5 : Same H1 (upd H4 F (.lst ((found ++ [leastS x xs]).map V.str))) := s14.mut fF
            have eL5 : (upd H4 F (.lst ((found ++ [leastS x xs]).map V.str))) L = some (.lst (left.map V.str)) := by
              rw [upd_ne nLF]
              exact eL4
            have eF5 : (upd H4 F (.lst ((found ++ [leastS x xs]).map V.str))) F = some (.lst ((found ++ [leastS x xs]).map V.str)) := upd_same
            generalize upd H4 F (.lst ((found ++ [leastS x xs]).map V.str)) = H5 at s5 eL5 eF5
            refine ⟨_, rfl, L, rfl, ⟨_, SqL.of eL5⟩, fun D3 hD3 => ?_⟩
            have lst1 : atI ((found ++ [leastS x xs]).map V.str) (-1) = some (.str (leastS x xs)) := by
              rw [List.map_append]
              exact atI_last _ _
            refine lc_dat (K := K) left (fun g => if !decide (g = leastS x xs) then some (.str g) else none) (walkLS left) (fun p d h => ?_) (sz100 (by omega)) hD3 (fun H' z => z.seq (SqL.of eL5)) ?_ ?_
            · rw [some_if (p := fun g => !decide (g = leastS x xs)) h]
              rfl
            · rintro i g u H6 _ W N eg s6 ⟨rfl, v, eu, rfl⟩ kW kN
              rw [eg] at eu
              cases eu
              refine ⟨rfl, _, rfl, _, rfl, 1, rfl, F, _, -1, _, rfl, rfl, SqL.of (s6 _ _ eF5), lst1, rd_ne ⟨_, rfl, ?_⟩⟩
              refine ite2 (fun y2 => ⟨_, rfl, kW _ _ _ (fun _ _ h => h) (by rw [if_pos y2]) (.str _)⟩) (fun y2 => kN _ (fun _ _ h => h) (by rw [if_neg y2]))
            · intro H6 zs s6 a1 a2
              have a3 := DpAll.of_strs (xs := left.filter fun g => !decide (g = leastS x xs)) (dL_filter a2)
              subst a3
              have nD3F : D3 ≠ F := fun z => by rw [z, eF5] at hD3; cases hD3
              exact ⟨_, leastS x xs, D3, _, _, _, _, rfl, rfl, hm, a1, s6 _ _ eF5, nD3F, s5.trans s6, fun rest hr => .cons hf hr⟩
  · have hnil : left = [] := by
      cases left with
      | nil => rfl
      | cons x xs => simp at q
    subst hnil
    refine ⟨_, rfl, F, _, rfl, SqL.of eF, NewT.mk fun r H' s5 hr5 => ?_⟩
    refine k H' r found ((s1.trans s2).trans s5) hr5 ?_
    have h := inv [] .nil
    rwa [List.append_nil] at h
end
end WC
namespace WC
open PySem PySem.Spec PyProof.Rows L2
/-! orders and what follows of pairs -/
inductive Reach (pairs : List PP) : Str → Str → Prop
  | one {a b : Str} : (a, b) ∈ pairs → Reach pairs a b
  | step {a b c : Str} : (a, b) ∈ pairs → Reach pairs b c → Reach pairs a c
theorem Reach.trans {pairs : List PP} {a b c : Str} (h : Reach pairs a b) (k : Reach pairs b c) : Reach pairs a c := by
  induction h with
  | one m => exact .step m k
  | step m _ ih => exact .step m (ih k)
theorem Reach.mono {pairs more : List PP} {a b : Str} (h : Reach pairs a b) (s : ∀ p ∈ pairs, p ∈ more) : Reach more a b := by
  induction h with
  | one m => exact .one (s _ m)
  | step m _ ih => exact .step (s _ m) ih
/-- all pairs stand among the left -/
def Closed (pairs : List PP) (left : List Str) : Prop := ∀ p ∈ pairs, p.1 ∈ left → p.2 ∈ left
theorem mem_waiting {pairs : List PP} {left : List Str} {g : Str} : g ∈ waitingOf pairs left ↔ ∃ x, (x, g) ∈ pairs ∧ x ∈ left := by
  unfold waitingOf
  constructor
  · intro h
    obtain ⟨p, hp, e⟩ := List.mem_map.mp h
    obtain ⟨h1, h2⟩ := List.mem_filter.mp hp
    exact ⟨p.1, by rw [← e]; exact h1, of_decide_eq_true h2⟩
  · rintro ⟨x, h1, h2⟩
    exact List.mem_map.mpr ⟨(x, g), List.mem_filter.mpr ⟨h1, decide_eq_true h2⟩, rfl⟩
theorem mem_free {pairs : List PP} {left : List Str} {g : Str} : g ∈ freeOf pairs left ↔ g ∈ left ∧ ∀ x, (x, g) ∈ pairs → x ∉ left := by
  unfold freeOf
  rw [List.mem_filter]
  refine and_congr_right fun _ => ?_
  rw [Bool.not_eq_true', decide_eq_false_iff_not, mem_waiting]
  exact ⟨fun h x h1 h2 => h ⟨x, h1, h2⟩, fun h ⟨x, h1, h2⟩ => h x h1 h2⟩
theorem least_free {pairs : List PP} {left : List Str} {x : Str} {xs : List Str} (h : freeOf pairs left = x :: xs) : leastS x xs ∈ left ∧ ∀ y, (y, leastS x xs) ∈ pairs → y ∉ left := by
  have hm := leastS_mem xs x
  rw [← h] at hm
  exact mem_free.mp hm
theorem mem_without {left : List Str} {m g : Str} : g ∈ (left.filter fun g => !decide (g = m)) ↔ g ∈ left ∧ g ≠ m := by
  rw [List.mem_filter]
  simp
theorem Closed.without {pairs : List PP} {left : List Str} {m : Str} (c : Closed pairs left) (hf : ∀ y, (y, m) ∈ pairs → y ∉ left) : Closed pairs (left.filter fun g => !decide (g = m)) := by
  intro p hp h1
  obtain ⟨a, b⟩ := mem_without.mp h1
  refine mem_without.mpr ⟨c p hp a, fun z => ?_⟩
  refine hf p.1 ?_ a
  rw [← z]
  exact hp
theorem nodup_filter {l : List Str} {p : Str → Bool} (h : l.Nodup) : (l.filter p).Nodup := h.sublist List.filter_sublist
/-- the order has everybody once -/
theorem Ord.mem {pairs : List PP} {left found : List Str} (o : Ord pairs left found) : ∀ g, g ∈ found ↔ g ∈ left := by
  induction o with
  | nil => exact fun _ => Iff.rfl
  | @cons left found x xs hf _ ih =>
    intro g
    rw [List.mem_cons, ih, mem_without]
    constructor
    · rintro (h | h)
      · rw [h]
        exact (least_free hf).1
      · exact h.1
    · intro h
      by_cases e : g = leastS x xs
      · exact .inl e
      · exact .inr ⟨h, e⟩
theorem Ord.nodup {pairs : List PP} {left found : List Str} (o : Ord pairs left found) : found.Nodup := by
  induction o with
  | nil => exact List.nodup_nil
  | @cons left found x xs hf o ih =>
    refine List.nodup_cons.mpr ⟨fun h => ?_, ih⟩
    exact (mem_without.mp ((o.mem _).mp h)).2 rfl
/-- every pair stands in the order -/
def Topo (pairs : List PP) (found : List Str) : Prop := ∀ pre g post, found = pre ++ g :: post → ∀ o, (g, o) ∈ pairs → o ∈ post
theorem Ord.topo {pairs : List PP} {left found : List Str} (o : Ord pairs left found) (c : Closed pairs left) : Topo pairs found := by
  induction o with
  | nil => intro pre g post h; simp at h
  | @cons left found x xs hf o ih =>
    obtain ⟨h1, h2⟩ := least_free hf
    intro pre g post h u hu
    cases pre with
    | nil =>
      rw [List.nil_append] at h
      injection h with e1 e2
      rw [← e2]
      refine (o.mem u).mpr (mem_without.mpr ⟨c _ hu ?_, fun z => ?_⟩)
      · show g ∈ left
        rw [← e1]
        exact h1
      · refine h2 g ?_ ?_
        · rw [← z]; exact hu
        · rw [← e1]; exact h1
    | cons y pre =>
      rw [List.cons_append] at h
      injection h with e1 e2
      exact ih (c.without h2) pre g post e2 u hu
/-! keys one by one -/
def addK (ks : List Str) (k : Str) : List Str := if k ∈ ks then ks else ks ++ [k]
theorem mem_addK {ks : List Str} {k x : Str} : x ∈ addK ks k ↔ x ∈ ks ∨ x = k := by
  unfold addK
  by_cases h : k ∈ ks
  · rw [if_pos h]
    exact ⟨.inl, fun q => q.elim (fun z => z) fun z => by rw [z]; exact h⟩
  · rw [if_neg h]
    simp
theorem nodup_addK {ks : List Str} {k : Str} (h : ks.Nodup) : (addK ks k).Nodup := by
  unfold addK
  by_cases q : k ∈ ks
  · rw [if_pos q]
    exact h
  · rw [if_neg q, List.nodup_append]
    exact ⟨h, List.nodup_cons.mpr ⟨List.not_mem_nil, List.nodup_nil⟩, fun a ha b hb => by
      have e : b = k := by simpa using hb
      rw [e]
      exact fun z => q (by rw [← z]; exact ha)⟩
def trueD (ks : List Str) : List (Key × V) := ks.map fun o => (.inr o, .bl true)
theorem putK_true (ks : List Str) (k : Str) : putK (trueD ks) (.inr k) (.bl true) = trueD (addK ks k) := by
  have ha : ((trueD ks).any fun kv => decide (kv.1 = (.inr k : Key))) = decide (k ∈ ks) := by
    unfold trueD
    rw [List.any_map]
    induction ks with
    | nil => rfl
    | cons a ks ih =>
      rw [List.any_cons, ih]
      by_cases e : a = k
      · simp [e]
      · have e2 : ¬ k = a := fun z => e z.symm
        simp [e, e2]
  unfold putK addK
  rw [ha]
  by_cases h : k ∈ ks
  · rw [if_pos (decide_eq_true h), if_pos h]
    unfold trueD
    rw [List.map_map]
    refine List.map_congr_left fun o _ => ?_
    show (if (Sum.inr o : Key) = .inr k then ((Sum.inr o : Key), V.bl true) else (.inr o, .bl true)) = _
    by_cases e : (Sum.inr o : Key) = .inr k
    · rw [if_pos e]
    · rw [if_neg e]
  · rw [if_neg (by simpa using h), if_neg h]
    unfold trueD
    rw [List.map_append]
    rfl
def addAll (ks more : List Str) : List Str := more.foldl addK ks
theorem merge_true : ∀ (more ks : List Str), mergeK (trueD ks) (trueD more) = trueD (addAll ks more)
  | [], ks => rfl
  | m :: more, ks => by
    show mergeK (putK (trueD ks) (.inr m) (.bl true)) (trueD more) = trueD (addAll (addK ks m) more)
    rw [putK_true, merge_true more]
theorem mem_addAll : ∀ {more ks : List Str} {x : Str}, x ∈ addAll ks more ↔ x ∈ ks ∨ x ∈ more
  | [], ks, x => by simp [addAll]
  | m :: more, ks, x => by
    show x ∈ addAll (addK ks m) more ↔ _
    rw [mem_addAll, mem_addK, List.mem_cons]
    exact or_assoc
theorem nodup_addAll : ∀ {more ks : List Str}, ks.Nodup → (addAll ks more).Nodup
  | [], ks, h => h
  | m :: more, ks, h => nodup_addAll (more := more) (nodup_addK h)
end WC
namespace WC
open PySem PySem.Spec PyProof.Rows L2
/-- a guest, the dict of those behind, and these -/
abbrev Row := Str × Addr × List Str
def rowD (tab : List Row) : List (Key × V) := tab.map fun r => (.inr r.1, .ref r.2.1)
theorem dget_row {H : Hp} {B : Addr} {tab : List Row} {r : Row} (hB : H B = some (.dK (rowD tab))) (nd : (tab.map fun r => r.1).Nodup) (hr : r ∈ tab) : DGet H B (.str r.1) (some (.ref r.2.1)) := by
  have h := DGet.k (k := .inr r.1) hB
  have h2 := valV_map (fun r : Row => r.1) (fun r : Row => V.ref r.2.1) r.1 nd hr rfl
  unfold rowD at h
  rw [h2] at h
  exact h
theorem rowD_keys (tab : List Row) : (rowD tab).map (fun kv => kv.1) = (tab.map fun r => r.1).map (Sum.inr : Str → Key) := by
  unfold rowD
  rw [List.map_map, List.map_map]
  rfl
theorem putK_row {tab : List Row} {g : Str} {D : Addr} (h : g ∉ tab.map fun r => r.1) : putK (rowD tab) (.inr g) (.ref D) = rowD (tab ++ [(g, D, [])]) := by
  rw [putK_absent]
  · unfold rowD
    rw [List.map_append]
    rfl
  · intro z
    have z2 := rowD_keys tab ▸ z
    obtain ⟨x, hx, e⟩ := List.mem_map.mp z2
    have e2 : x = g := by simpa using e
    exact h (by rw [← e2]; exact hx)
theorem rowD_set (tab : List Row) (g : Str) (D : Addr) (ks ks' : List Str) : rowD (tab ++ [(g, D, ks)]) = rowD (tab ++ [(g, D, ks')]) := by
  unfold rowD
  rw [List.map_append, List.map_append]
  rfl
theorem Reach.last {pairs : List PP} {a b : Str} (h : Reach pairs a b) : ∃ x, (x, b) ∈ pairs := by
  induction h with
  | one m => exact ⟨_, m⟩
  | step _ _ ih => exact ih
theorem reach_iff {pairs : List PP} {g o : Str} : Reach pairs g o ↔ ∃ p ∈ pairs, p.1 = g ∧ (o = p.2 ∨ Reach pairs p.2 o) := by
  constructor
  · intro h
    cases h with
    | one m => exact ⟨_, m, rfl, .inl rfl⟩
    | step m r => exact ⟨_, m, rfl, .inr r⟩
  · rintro ⟨p, hp, rfl, h | h⟩
    · rw [h]
      exact .one hp
    · exact .step hp h
theorem len_true {ks guests : List Str} (nd : ks.Nodup) (sub : ∀ o ∈ ks, o ∈ guests) (h : guests.length ≤ 100) : (trueD ks).length ≤ 100 := by
  unfold trueD
  rw [List.length_map]
  exact Nat.le_trans (nodup_len nd sub) h
def itemsOf (tab : List Row) : List PP := tab.flatMap fun r => r.2.2.map fun o => (r.1, o)
theorem items_len : ∀ {tab : List Row}, (∀ r ∈ tab, r.2.2.length ≤ 100) → (itemsOf tab).length ≤ tab.length * 100
  | [], _ => Nat.le_refl _
  | r :: tab, h => by
    have ih := items_len (tab := tab) fun x hx => h x (List.mem_cons_of_mem _ hx)
    have h1 := h r List.mem_cons_self
    have e : (itemsOf (r :: tab)).length = r.2.2.length + (itemsOf tab).length := by
      show ((r.2.2.map fun o => (r.1, o)) ++ itemsOf tab).length = _
      rw [List.length_append, List.length_map]
    rw [e, List.length_cons]
    omega
theorem mem_items {tab : List Row} {p : PP} : p ∈ itemsOf tab ↔ ∃ r ∈ tab, p.1 = r.1 ∧ p.2 ∈ r.2.2 := by
  unfold itemsOf
  rw [List.mem_flatMap]
  constructor
  · rintro ⟨r, h1, h2⟩
    obtain ⟨o, ho, e⟩ := List.mem_map.mp h2
    subst e
    exact ⟨r, h1, rfl, ho⟩
  · rintro ⟨r, h1, h2, h3⟩
    exact ⟨r, h1, List.mem_map.mpr ⟨p.2, h3, by rw [← h2]⟩⟩
theorem items_nodup : ∀ {tab : List Row}, (tab.map fun r => r.1).Nodup → (∀ r ∈ tab, r.2.2.Nodup) → (itemsOf tab).Nodup
  | [], _, _ => List.nodup_nil
  | r :: tab, nd, h => by
    obtain ⟨hn, nd'⟩ := List.nodup_cons.mp (by simpa using nd : (r.1 :: tab.map fun r => r.1).Nodup)
    show ((r.2.2.map fun o => (r.1, o)) ++ itemsOf tab).Nodup
    rw [List.nodup_append]
    refine ⟨?_, items_nodup nd' fun x hx => h x (List.mem_cons_of_mem _ hx), fun a ha b hb => ?_⟩
    · have h1 := h r List.mem_cons_self
      refine List.pairwise_map.mpr (h1.imp fun {a b} hab z => hab ?_)
      have z2 := congrArg Prod.snd z
      exact z2
    · obtain ⟨o, _, e⟩ := List.mem_map.mp ha
      obtain ⟨x, hx, e2, _⟩ := mem_items.mp hb
      intro z
      refine hn (List.mem_map.mpr ⟨x, hx, ?_⟩)
      show x.1 = r.1
      rw [← e2, ← z, ← e]
section
variable {P : Program} {w : World} {K : PySem.W.Frag} {mg : Str → Option Value} {base : Heap}
/-! ### sure_pairs -/
def sp_sure_pairs (K : PySem.W.Frag) : Sp := fun vs H Q _ => ∃ (ev wv lv : V) (e : Ev) (way words : List PP), vs = [ev, wv, lv] ∧ Dp K H ev (dE e) ∧ Dp K H wv (dTP way) ∧ Dp K H lv (dLP words) ∧ WayOk e way ∧ e.whyNot way = none ∧ words.length ≤ 1000 ∧
  (∀ p ∈ e.pairs way words, p.1 ∈ e.guests ∧ p.2 ∈ e.guests) ∧ (∀ ring, ¬ RingOf (e.pairs way words) ring) ∧
  ∀ H' v (sure : List PP), Same H H' → LL K H' v (sure.map dP) → sure.Nodup → (∀ p, p ∈ sure ↔ Reach (e.pairs way words) p.1 p.2) → Q v H'
theorem sc_sure_pairs : FnScope ["evening", "way", "words", "pairs", "behind", "guest", "one", "other"] ["evening", "way", "words"] (defScope s_sure_pairs) := ⟨rfl, rfl, rfl, by decide +kernel, rfl, by decide +kernel, by decide +kernel⟩
theorem ok_sure_pairs (T : Tx K mg) : FnOk P w K mg base CX0 9 (He.ga K "sure_pairs") T.fd_sure_pairs ["evening", "way", "words"] (sp_sure_pairs K) := by
  refine T.F_sure_pairs.ok sc_sure_pairs (fun vs H Q E h => ?_) (fun cdv A outer s H vs Q E hr h => ?_)
  · obtain ⟨ev, wv, lv, e, way, words, rfl, _⟩ := h
    rfl
  obtain ⟨ev, wv, lv, e, way, words, rfl, hE, hW, hL, ok, why, h2, hcl, hring, k⟩ := h
  refine ⟨_, PSs.nox (pss_cons (ps_asg (pe_tup (pa_cons (pe_call (ok_pairs_of T) (hr.mono (by decide)) rfl T.g_pairs_of T.F_pairs_of.kp T.b_pairs_of .nil pass0 (pa_cons (pv 0) (pa_cons (pv 1) (pa_cons (pv 2) pa_nil)))) (pa_cons pe_dnewK pa_nil))) (pg_tup rfl (pgs_cons (pg_name (i := 3) sc_sure_pairs.nd rfl (Or.inl rfl)) (pgs_cons (pg_name (i := 4) sc_sure_pairs.nd rfl (Or.inr rfl)) pgs_nil))))
      (pss_cons (ps_for PassesOwn.never rfl (RT.pi_revA (by rfl) T.n_reversed (pe_call (ok_order_by T) (hr.mono (by decide)) rfl T.g_order_by T.F_order_by.kp T.b_order_by .nil passL (pa_cons (pv 0) (pa_cons (pv 1) (pa_cons (pv 2) pa_nil))))) (pg_name (i := 5) sc_sure_pairs.nd rfl (Or.inl rfl)) (pss_cons (ps_dput (hu_of hr) (pv 4) (pv 5) pe_dnewK rfl)
      (pss_one (ps_for PassesOwn.never rfl (pi_list (pv 3)) (pg_tup rfl (pgs_cons (pg_name (i := 6) sc_sure_pairs.nd rfl (Or.inl rfl)) (pgs_cons (pg_name (i := 7) sc_sure_pairs.nd rfl (Or.inl rfl)) pgs_nil))) (pss_one (ps_if (pt_cmpR op_eq (pv 6) (pv 5) (nomark _)) (pss_cons (ps_expr (pe_dupd (pe_dget (hu_of hr) (pv 4) (pv 5) (fun _ _ => rfl)) (pe_dget (hu_of hr) (pv 4) (pv 7) (fun _ _ => rfl)) ⟨rfl, rfl, rfl, rfl⟩))
      (pss_one (ps_dput (hu_of hr) (pe_dget (hu_of hr) (pv 4) (pv 5) (fun _ _ => rfl)) (pv 7) pe_bl rfl))) pss_nil))))))
      (pss_one (ps_ret (pe_callB (cr_sortedPS hr) (by rfl) T.n_sorted (by decide +kernel) (pa_cons (pe_frz (pe_lc2 (own := [("guest", 5), ("other", 7)]) (vs1 := [7]) (g := gName 5) (g1 := gName 7) rfl sc_sure_pairs.nd (pi_keys (pv 4)) (blkOk_by (own := [("guest", 5), ("other", 7)]) (N := ["evening", "way", "words", "pairs", "behind", "guest", "one", "other"]) (sc := defScope s_sure_pairs) (by decide +kernel)) (by decide) (fun _ _ _ _ _ => (pg_name (i := 5) sc_sure_pairs.nd rfl (Or.inl rfl))) (fun _ _ _ _ _ => pts_nil) (fun _ _ _ _ _ => (pi_keys (pe_dget (hu_of hr) (pv 4) (pv 5) (fun _ _ => rfl)))) (fun _ _ _ _ _ => (pg_name (i := 7) sc_sure_pairs.nd rfl (Or.inl rfl))) (fun _ _ _ _ _ => pts_nil) (fun _ _ _ _ _ => (pe_tup (pa_cons (pv 5) (pa_cons (pv 7) pa_nil)))))) pa_nil)))))), ?_⟩
  refine ⟨_, rfl, _, rfl, _, rfl, _, _, _, e, way, words, rfl, hE, hW, hL, ok, why, h2, fun H1 v s1 hv => ?_⟩
  obtain ⟨pl, ws, rfl, hpl, hws⟩ := hv
  have plen : (e.pairs way words).length ≤ 2000 := by
    unfold Ev.pairs
    rw [List.length_append]
    have := needs_len ok
    omega
  refine fun B hB0 => ⟨sz2, fun t ht => ⟨t, _, rfl, .inl (.inl upd_same), rfl, _, _, rfl, _, _, rfl, rfl, ?_⟩⟩
  have s2 : Same H1 (upd (upd H1 B (.dK [])) t (.tup [.ref pl, .ref B])) := (same_new hB0).new ht
  have eB : (upd (upd H1 B (.dK [])) t (.tup [.ref pl, .ref B])) B = some (.dK []) := by
    rw [upd_ne (ne_of_none upd_same ht)]
    exact upd_same
  generalize (upd (upd H1 B (.dK [])) t (.tup [.ref pl, .ref B])) = H2 at s2 eB
  have s12 := s1.trans s2
  refine ⟨_, rfl, _, rfl, _, rfl, _, _, _, e, way, words, rfl, Dp.same s12 _ hE, Dp.same s12 _ hW, Dp.same s12 _ hL, ok, why, h2, fun H3 r found s3 hr3 hord => ?_, fun H3 d r ring _ _ _ hr3 => absurd hr3 (hring ring)⟩
  generalize e.pairs way words = pairs at k hcl hring hws plen hord
  have closed : Closed pairs e.guests := fun p hp _ => (hcl p hp).2
  have fnd := hord.nodup
  have fmem := hord.mem
  have ftopo := hord.topo closed
  have flen : found.length ≤ 100 := by
    have := nodup_len fnd (fun x hx => (fmem x).mp hx)
    have := ok.guests
    omega
  have s13 := s2.trans s3
  refine ⟨r, _, rfl, .inr ⟨hr3.sqt, ?_⟩⟩
  rw [List.length_map]
  refine for_it (walkRev found) (fun i σ H' => ∃ (tab : List Row) (c1 c2 c3 : Option V), σ = [some ev, some wv, some lv, some (.ref pl), some (.ref B), c1, c2, c3] ∧ Same H1 H' ∧ TupK H' r (found.map V.str) ∧ (tab.map fun r => r.1) = found.reverse.take i ∧
    H' B = some (.dK (rowD tab)) ∧ (tab.map fun r => r.2.1).Nodup ∧ ∀ r ∈ tab, r.2.1 ≠ B ∧ H' r.2.1 = some (.dK (trueD r.2.2)) ∧ H1 r.2.1 = none ∧ r.2.2.Nodup ∧ ∀ o, o ∈ r.2.2 ↔ Reach pairs r.1 o)
    ⟨[], _, _, _, rfl, s13, hr3, rfl, s3 _ _ eB, List.nodup_nil, fun _ h => by cases h⟩ (fun i σ H' _ ⟨_, _, _, _, _, _, h, _⟩ => h.sqt) ?_ ?_
  · rintro i x σ _ H4 hi ⟨tab, c1, c2, c3, rfl, s4, htup, hdone, hB, hadr, htab⟩ ⟨rfl, g, eg, rfl⟩
    have gnew : g ∉ tab.map fun r => r.1 := by
      rw [hdone]
      intro z
      obtain ⟨j, hj, ej⟩ := List.mem_take_iff_getElem.mp z
      have e2 : found.reverse[j]? = some g := by rw [← ej]; exact List.getElem?_eq_getElem (by omega)
      exact absurd ((List.getElem?_inj (by omega) ((List.reverse_perm found).nodup_iff.mpr fnd)).mp (e2.trans eg.symm)) (by omega)
    refine fun D hD => ⟨_, rfl, _, rfl, B, ?_⟩
    have nBD := ne_of_none hB hD
    have hBD : (upd H4 D (.dK [])) B = some (.dK (rowD tab)) := by rw [upd_ne nBD]; exact hB
    have tlen : (rowD tab).length < sizeLine := by
      unfold rowD
      have e1 := congrArg List.length hdone
      rw [List.length_map, List.length_take] at e1
      rw [List.length_map]
      exact sz100 (by rw [List.length_reverse] at e1; omega)
    refine ⟨_, rfl, DPut.k (k := .inr g) hBD tlen, ?_⟩
    rw [putK_row gnew]
    have s5 : Same H1 (upd (upd H4 D (.dK [])) B (.dK (rowD (tab ++ [(g, D, [])])))) := (s4.new hD).mut hB0
    have bD : (upd (upd H4 D (.dK [])) B (.dK (rowD (tab ++ [(g, D, [])])))) D = some (.dK (trueD [])) := by
      rw [upd_ne nBD.symm]
      exact upd_same
    have bB : (upd (upd H4 D (.dK [])) B (.dK (rowD (tab ++ [(g, D, [])])))) B = some (.dK (rowD (tab ++ [(g, D, [])]))) := upd_same
    have btab : ∀ r ∈ tab, r.2.1 ≠ D ∧ (upd (upd H4 D (.dK [])) B (.dK (rowD (tab ++ [(g, D, [])])))) r.2.1 = some (.dK (trueD r.2.2)) := fun r hr => by
      obtain ⟨n1, a1, _⟩ := htab r hr
      have n2 := ne_of_none a1 hD
      exact ⟨n2, by rw [upd_ne n1, upd_ne n2]; exact a1⟩
    have btup : TupK (upd (upd H4 D (.dK [])) B (.dK (rowD (tab ++ [(g, D, [])])))) r (found.map V.str) := by
      obtain ⟨ob, e1, e2⟩ := htup
      have n1 : r ≠ B := fun z => by rw [z, hB] at e1; cases e1
      have n2 := ne_of_none e1 hD
      exact ⟨ob, by rw [upd_ne n1, upd_ne n2]; exact e1, e2⟩
    have fD : H1 D = none := s4.free hD
    generalize (upd (upd H4 D (.dK [])) B (.dK (rowD (tab ++ [(g, D, [])])))) = H5 at s5 bD bB btab btup
    have nd2 : ((tab ++ [(g, D, ([] : List Str))]).map fun r => r.1).Nodup := by
      rw [List.map_append, List.nodup_append]
      refine ⟨by rw [hdone]; exact ((List.reverse_perm found).nodup_iff.mpr fnd).sublist (List.take_sublist _ _), List.nodup_cons.mpr ⟨List.not_mem_nil, List.nodup_nil⟩, fun a ha b hb => ?_⟩
      have e : b = g := by simpa using hb
      rw [e]
      exact fun z => gnew (by rw [← z]; exact ha)
    have gl := ok.guests
    have reach_in : ∀ {a b : Str}, Reach pairs a b → b ∈ e.guests := fun {a b} h => by
      obtain ⟨x, hx⟩ := h.last
      exact (hcl _ hx).2
    refine ⟨_, rfl, pl, rfl, ⟨_, s5.seq (SqL.of hpl)⟩, ?_⟩
    refine for_it (walkLP hws) (fun j σ H' => ∃ (keys : List Str) (c2 c3 : Option V), σ = [some ev, some wv, some lv, some (.ref pl), some (.ref B), some (.str g), c2, c3] ∧ But D H5 H' ∧ H' D = some (.dK (trueD keys)) ∧ keys.Nodup ∧
      ∀ o, o ∈ keys ↔ ∃ p ∈ pairs.take j, p.1 = g ∧ (o = p.2 ∨ Reach pairs p.2 o))
      ⟨[], _, _, rfl, But.refl _ _, bD, List.nodup_nil, fun o => ⟨fun h => (by cases h), fun ⟨p, h, _⟩ => (by simp at h)⟩⟩ (fun j σ H' _ ⟨_, _, _, _, h, _⟩ => ((s5.but D).trans h).same fD |>.seq (SqL.of hpl)) ?_ ?_
    · rintro j x σ _ H6 hj ⟨keys, c2, c3, rfl, but6, h6, knd, kmem⟩ ⟨rfl, ex⟩
      have s6 : Same H1 H6 := ((s5.but D).trans but6).same fD
      have ep : pairs[j]? = some pairs[j] := List.getElem?_eq_getElem hj
      generalize pairs[j] = p at ep
      obtain ⟨t, rfl, ht⟩ := dP_at (Dp.same s6 _ (hws.at_map ep ex))
      refine ⟨t, _, rfl, ht, rfl, _, _, rfl, _, _, rfl, rfl, ?_⟩
      refine ⟨_, rfl, _, rfl, rd_eq ⟨_, rfl, ?_⟩⟩
      have take1 : pairs.take (j + 1) = pairs.take j ++ [p] := by rw [List.take_add_one, ep]; rfl
      refine ite2 (fun q => ?_) (fun q => ?_)
      · have q1 : p.1 = g := of_decide_eq_true q
        have hpm : p ∈ pairs := List.mem_iff_getElem?.mpr ⟨j, ep⟩
        have b6 := but6 _ _ nBD bB
        have hod : p.2 ∈ tab.map fun r => r.1 := by
          rw [hdone]
          have e1 : found.reverse = found.reverse.take i ++ g :: found.reverse.drop (i + 1) := by
            rw [← drop_get eg, List.take_append_drop]
          have e2 : found = (found.reverse.drop (i + 1)).reverse ++ g :: (found.reverse.take i).reverse := by
            have e3 := congrArg List.reverse e1
            rw [List.reverse_reverse] at e3
            rw [List.reverse_append, List.reverse_cons, List.append_assoc] at e3
            exact e3
          have e4 := ftopo _ g _ e2 p.2 (by rw [← q1]; exact hpm)
          exact List.mem_reverse.mp e4
        obtain ⟨ro, hro, ero⟩ := List.mem_map.mp hod
        obtain ⟨n1, _, _, rnd, rmem⟩ := htab ro hro
        obtain ⟨n2, a2⟩ := btab ro hro
        have r6 := but6 _ _ n2 a2
        have dD : DGet H6 B (.str g) (some (.ref D)) := dget_row (r := (g, D, [])) b6 nd2 (by simp)
        have dO : DGet H6 B (.str p.2) (some (.ref ro.2.1)) := by
          rw [← ero]
          exact dget_row b6 nd2 (List.mem_append_left _ hro)
        have keyin : ∀ o ∈ keys, o ∈ e.guests := fun o ho => by
          obtain ⟨p', a, b, c⟩ := (kmem o).mp ho
          have hp' : p' ∈ pairs := List.mem_of_mem_take a
          rcases c with c | c
          · rw [c]
            exact (hcl _ hp').2
          · exact reach_in c
        have oin : ∀ o ∈ ro.2.2, o ∈ e.guests := fun o ho => reach_in ((rmem o).mp ho)
        refine ⟨_, rfl, _, rfl, B, _, rfl, dD, D, rfl, .inl ⟨_, .inl h6⟩, _, rfl, _, rfl, B, _, rfl, dO, ro.2.1, trueD keys, trueD ro.2.2, rfl, n2.symm, h6, .inl r6, ?_, ?_⟩
        · have l1 := len_true knd keyin gl
          have l2 := len_true rnd oin gl
          unfold sizeLine
          omega
        · rw [merge_true]
          have b7 : (upd H6 D (.dK (trueD (addAll keys ro.2.2)))) B = some (.dK (rowD (tab ++ [(g, D, [])]))) := by rw [upd_ne nBD]; exact b6
          have dD7 : DGet (upd H6 D (.dK (trueD (addAll keys ro.2.2)))) B (.str g) (some (.ref D)) := dget_row (r := (g, D, [])) b7 nd2 (by simp)
          have l3 := len_true (ks := addAll keys ro.2.2) (nodup_addAll knd) (fun o ho => (mem_addAll.mp ho).elim (keyin o) (oin o)) gl
          refine ⟨_, rfl, _, rfl, B, _, rfl, dD7, _, rfl, D, _, rfl, DPut.k (k := .inr p.2) upd_same (sz100 (by omega)), ?_⟩
          rw [putK_true]
          refine ⟨addK (addAll keys ro.2.2) p.2, _, _, rfl, but6.upd.upd, upd_same, nodup_addK (nodup_addAll knd), fun o => ?_⟩
          rw [mem_addK, mem_addAll, kmem, rmem, take1, ero]
          constructor
          · rintro ((⟨p', a, b⟩ | h) | h)
            · exact ⟨p', List.mem_append_left _ a, b⟩
            · exact ⟨p, List.mem_append_right _ List.mem_cons_self, q1, .inr h⟩
            · exact ⟨p, List.mem_append_right _ List.mem_cons_self, q1, .inl h⟩
          · rintro ⟨p', a, b, c⟩
            rcases List.mem_append.mp a with h | h
            · exact .inl (.inl ⟨p', h, b, c⟩)
            · have e1 : p' = p := by simpa using h
              rw [e1] at c
              exact c.elim .inr fun c => .inl (.inr c)
      · have q1 : ¬ p.1 = g := fun z => q (decide_eq_true z)
        refine ⟨keys, _, _, rfl, but6, h6, knd, fun o => ?_⟩
        rw [kmem, take1]
        constructor
        · rintro ⟨p', a, b⟩
          exact ⟨p', List.mem_append_left _ a, b⟩
        · rintro ⟨p', a, b⟩
          rcases List.mem_append.mp a with h | h
          · exact ⟨p', h, b⟩
          · have e1 : p' = p := by simpa using h
            rw [e1] at b
            exact absurd b.1 q1
    · rintro σ H6 ⟨keys, c2, c3, rfl, but6, h6, knd, kmem⟩
      rw [List.take_length] at kmem
      have s6 : Same H1 H6 := ((s5.but D).trans but6).same fD
      refine ⟨tab ++ [(g, D, keys)], _, _, _, rfl, s6, ?_, ?_, ?_, ?_, fun x hx => ?_⟩
      · obtain ⟨ob, e1, e2⟩ := btup
        have n1 : r ≠ D := fun z => by rw [z, bD] at e1; cases e1
        exact ⟨ob, but6 _ _ n1 e1, e2⟩
      · rw [List.map_append, hdone, List.take_add_one, eg]
        rfl
      · rw [rowD_set tab g D keys []]
        exact but6 _ _ nBD bB
      · rw [List.map_append, List.nodup_append]
        refine ⟨hadr, List.nodup_cons.mpr ⟨List.not_mem_nil, List.nodup_nil⟩, fun a ha b hb => ?_⟩
        obtain ⟨y, hy, rfl⟩ := List.mem_map.mp ha
        have e : b = D := by simpa using hb
        rw [e]
        exact (btab y hy).1
      · rcases List.mem_append.mp hx with h | h
        · obtain ⟨n1, _, n0, nd3, m3⟩ := htab x h
          obtain ⟨n2, a2⟩ := btab x h
          exact ⟨n1, but6 _ _ n2 a2, n0, nd3, m3⟩
        · have e1 : x = (g, D, keys) := by simpa using h
          subst e1
          exact ⟨nBD.symm, h6, fD, knd, fun o => (kmem o).trans reach_iff.symm⟩
  · rintro σ H4 ⟨tab, c1, c2, c3, rfl, s4, htup, hdone, hB, hadr, htab⟩
    rw [List.take_length] at hdone
    have tnd : (tab.map fun r => r.1).Nodup := by rw [hdone]; exact (List.reverse_perm found).nodup_iff.mpr fnd
    have tlen : tab.length ≤ 100 := by
      have e1 := congrArg List.length hdone
      rw [List.length_map, List.length_reverse] at e1
      omega
    have gl := ok.guests
    have klen : ∀ r ∈ tab, r.2.2.length ≤ 100 := fun r hr => by
      obtain ⟨_, _, _, knd, km⟩ := htab r hr
      exact Nat.le_trans (nodup_len knd fun o ho => by
        obtain ⟨x, hx⟩ := ((km o).mp ho).last
        exact (hcl _ hx).2) gl
    refine ⟨B :: tab.map (fun r => r.2.1), frzAll_of (fun d => (H4 d).getD (.lst [])) _ H4 ?_ (fun d hd => ?_) (fun H5 hf hk => ?_)⟩
    · refine List.nodup_cons.mpr ⟨fun z => ?_, hadr⟩
      obtain ⟨x, hx, e⟩ := List.mem_map.mp z
      exact (htab x hx).1 e
    · rcases List.mem_cons.mp hd with z | z
      · subst z
        rw [hB]
        exact ⟨rfl, trivial⟩
      · obtain ⟨x, hx, e⟩ := List.mem_map.mp z
        subst e
        rw [(htab x hx).2.1]
        exact ⟨rfl, trivial⟩
    · have s5 : Same H1 H5 := fun b o e => by
        rw [hk b fun z => ?_]
        · exact s4 _ _ e
        · rcases List.mem_cons.mp z with z | z
          · rw [z, hB0] at e
            cases e
          · obtain ⟨x, hx, e2⟩ := List.mem_map.mp z
            rw [← e2, (htab x hx).2.2.1] at e
            cases e
      obtain ⟨oB, fB⟩ := hf B List.mem_cons_self
      rw [hB] at fB
      have frow : ∀ x ∈ tab, ∃ o, H5 x.2.1 = some (.frz o (.dK (trueD x.2.2))) := fun x hx => by
        obtain ⟨o, h⟩ := hf x.2.1 (List.mem_cons_of_mem _ (List.mem_map.mpr ⟨x, hx, rfl⟩))
        rw [(htab x hx).2.1] at h
        exact ⟨o, h⟩
      refine ⟨_, rfl, B, oB, rfl, .inl ⟨rowD tab, fB, fun D hD => ?_⟩⟩
      have rlen : (rowD tab).length = tab.length := List.length_map _
      refine ⟨fun i m H' => m = tab.length - i ∧ i ≤ tab.length ∧ Same H5 H' ∧ ∃ zs, H' D = some (.lst zs) ∧ DpAll K H' zs ((itemsOf (tab.take i)).map dP), ⟨tab.length, by simp, Nat.zero_le _, same_new hD, [], upd_same, .nil⟩, ?_⟩
      rintro i m H6 ⟨rfl, hi, s6, zs, hz, hall⟩
      by_cases hlt : i < tab.length
      · refine .inr ⟨walk_keys.goes i H6 (by rw [rlen]; exact hlt) (s6 _ _ fB), _, fun H' p' => ⟨tab.length - (i + 1), by omega, rfl, hlt, p'⟩, fun x H' y => ?_⟩
        obtain ⟨rfl, ky, vy, e1, rfl⟩ := walk_keys.yields i H6 x H' (by rw [rlen]; exact hlt) (s6 _ _ fB) y
        have er : tab[i]? = some tab[i] := List.getElem?_eq_getElem hlt
        generalize tab[i] = r0 at er
        have e2 : (rowD tab)[i]? = some (.inr r0.1, .ref r0.2.1) := by
          unfold rowD
          rw [List.getElem?_map, er]
          rfl
        rw [e2] at e1
        cases e1
        have hr0 : r0 ∈ tab := List.mem_iff_getElem?.mpr ⟨i, er⟩
        obtain ⟨o0, f0⟩ := frow r0 hr0
        have take1 : itemsOf (tab.take (i + 1)) = itemsOf (tab.take i) ++ r0.2.2.map fun o => (r0.1, o) := by
          unfold itemsOf
          rw [List.take_add_one, er, List.flatMap_append]
          simp
        refine ⟨rfl, _, rfl, _, rfl, B, _, rfl, .inl ⟨rowD tab, .inr r0.1, .inr ⟨oB, s6 _ _ fB⟩, rfl, (valV_map (fun r : Row => r.1) (fun r : Row => V.ref r.2.1) r0.1 tnd hr0 rfl).symm⟩, r0.2.1, o0, rfl, .inl ⟨trueD r0.2.2, s6 _ _ f0, ?_⟩⟩
        have klen0 := klen r0 hr0
        have tl0 : (trueD r0.2.2).length = r0.2.2.length := List.length_map _
        refine ⟨fun j k H' => k = r0.2.2.length - j ∧ j ≤ r0.2.2.length ∧ Same H5 H' ∧ ∃ zs, H' D = some (.lst zs) ∧ DpAll K H' zs ((itemsOf (tab.take i) ++ (r0.2.2.take j).map fun o => (r0.1, o)).map dP),
          ⟨r0.2.2.length, by simp, Nat.zero_le _, s6, zs, hz, by simpa using hall⟩, ?_⟩
        rintro j k0 H7 ⟨rfl, hj, s7, zs7, hz7, hall7⟩
        by_cases hlt2 : j < r0.2.2.length
        · refine .inr ⟨walk_keys.goes j H7 (by rw [tl0]; exact hlt2) (s7 _ _ f0), _, fun H' p' => ⟨r0.2.2.length - (j + 1), by omega, rfl, hlt2, p'⟩, fun x H' y2 => ?_⟩
          obtain ⟨rfl, ky, vy, e3, rfl⟩ := walk_keys.yields j H7 x H' (by rw [tl0]; exact hlt2) (s7 _ _ f0) y2
          have eo : r0.2.2[j]? = some r0.2.2[j] := List.getElem?_eq_getElem hlt2
          generalize r0.2.2[j] = o at eo
          have e4 : (trueD r0.2.2)[j]? = some (.inr o, .bl true) := by
            unfold trueD
            rw [List.getElem?_map, eo]
            rfl
          rw [e4] at e3
          cases e3
          refine ⟨rfl, _, rfl, _, rfl, sz2, fun u hu => ?_⟩
          obtain ⟨h8, h9⟩ := app_pair (x := r0.1) (y := o) hz7 hall7 hu
          refine ⟨zs7, h8, ?_, (s7.new hu).mut hD, _, upd_same, ?_⟩
          · have l1 := hall7.length
            rw [List.length_map, List.length_append, List.length_map, List.length_take] at l1
            have l2 := items_len (tab := tab.take i) fun r hr => klen r (List.mem_of_mem_take hr)
            rw [List.length_take] at l2
            unfold sizeLine
            omega
          · have e5 : ((r0.2.2.take (j + 1)).map fun o => (r0.1, o)) = ((r0.2.2.take j).map fun o => (r0.1, o)) ++ [(r0.1, o)] := by
              rw [List.take_add_one, eo, List.map_append]
              rfl
            rw [e5, ← List.append_assoc]
            exact h9
        · have e : j = r0.2.2.length := by omega
          subst e
          rw [List.take_length] at hall7
          refine .inl ⟨walk_keys.stops H7 (s7 _ _ f0) |> fun h => by rw [tl0] at h; exact h, s7, zs7, hz7, ?_⟩
          rw [take1]
          exact hall7
      · have e : i = tab.length := by omega
        subst e
        rw [List.take_length] at hall
        refine .inl ⟨walk_keys.stops H6 (s6 _ _ fB) |> fun h => by rw [rlen] at h; exact h, ?_⟩
        refine ⟨D, _, rfl, .lst (SqL.of hz) hall, fun q ys hq hys => ?_⟩
        have pm := List.mergeSort_perm (itemsOf tab) (PySem.W.dataLe false dP)
        refine k _ _ _ ((s1.trans (s5.trans s6)).new hq) ⟨q, ys, rfl, upd_same, DpAll.same (same_new hq) _ hys⟩ (pm.nodup_iff.mpr (items_nodup tnd fun r hr => (htab r hr).2.2.2.1)) fun p => ?_
        rw [pm.mem_iff, mem_items]
        constructor
        · rintro ⟨x, hx, h1, h3⟩
          rw [h1]
          exact ((htab x hx).2.2.2.2 p.2).mp h3
        · intro h
          have hg : p.1 ∈ tab.map fun r => r.1 := by
            rw [hdone, List.mem_reverse, fmem]
            obtain ⟨p', a, b, _⟩ := reach_iff.mp h
            rw [← b]
            exact (hcl _ a).1
          obtain ⟨x, hx, e1⟩ := List.mem_map.mp hg
          refine ⟨x, hx, e1.symm, ((htab x hx).2.2.2.2 p.2).mpr ?_⟩
          have e1' : x.1 = p.1 := e1
          rw [e1']
          exact h
end
end WC
namespace WC
open PySem PySem.Spec PyProof.Rows L2
/-! rings -/
def ringB (thing : List Str) (pairs : List PP) : Bool := decide (2 ≤ thing.length) && (decide thing.Nodup && (thing.zip (thing.drop 1 ++ thing.take 1)).all fun p => decide (p ∈ pairs))
theorem nodup_of_len {α : Type} [DecidableEq α] : ∀ {l us : List α}, l.Nodup → (∀ x ∈ l, x ∈ us) → us.length ≤ l.length → us.Nodup
  | [], us, _, _, h => by
    have : us = [] := List.length_eq_zero_iff.mp (Nat.le_zero.mp h)
    rw [this]
    exact List.nodup_nil
  | a :: l, us, nd, sub, h => by
    obtain ⟨hn, nd'⟩ := List.nodup_cons.mp nd
    have ha := sub a List.mem_cons_self
    have pm := List.perm_cons_erase ha
    have el := List.length_erase_of_mem ha
    have sub' : ∀ x ∈ l, x ∈ us.erase a := fun x hx => (List.mem_erase_of_ne (fun z => hn (by rw [← z]; exact hx))).mpr (sub x (List.mem_cons_of_mem _ hx))
    have pos := List.length_pos_of_mem ha
    rw [List.length_cons] at h
    have ih := nodup_of_len nd' sub' (by omega)
    rw [pm.nodup_iff]
    refine List.nodup_cons.mpr ⟨fun z => ?_, ih⟩
    have := nodup_len (l := a :: l) (m := us.erase a) nd fun x hx => by
      rcases List.mem_cons.mp hx with e | e
      · rw [e]
        exact z
      · exact sub' x e
    rw [List.length_cons] at this
    omega
theorem fold_true : ∀ (us ks : List Str), us.foldl (fun acc a => putK acc (.inr a) (.bl true)) (trueD ks) = trueD (addAll ks us)
  | [], ks => rfl
  | u :: us, ks => by
    show us.foldl _ (putK (trueD ks) (.inr u) (.bl true)) = trueD (addAll (addK ks u) us)
    rw [putK_true]
    exact fold_true us (addK ks u)
theorem keys_lt (us : List Str) : decide ((addAll [] us).length < us.length) = !decide us.Nodup := by
  have nd : (addAll [] us).Nodup := nodup_addAll List.nodup_nil
  have m : ∀ x, x ∈ addAll [] us ↔ x ∈ us := fun x => by rw [mem_addAll]; simp
  by_cases h : us.Nodup
  · have := nodup_len h fun x hx => (m x).mpr hx
    rw [decide_eq_true h, decide_eq_false (by omega)]
    rfl
  · rw [decide_eq_false h]
    refine decide_eq_true ?_
    by_cases q : (addAll [] us).length < us.length
    · exact q
    · exact absurd (nodup_of_len nd (fun x hx => (m x).mp hx) (by omega)) h
theorem any_count (us : List Str) : (us.any fun g => decide (us.count g > 1)) = !decide us.Nodup := by
  by_cases h : us.Nodup
  · rw [decide_eq_true h]
    refine Bool.eq_false_iff.mpr fun z => ?_
    obtain ⟨x, hx, e⟩ := List.any_eq_true.mp z
    have := List.nodup_iff_count.mp h x
    have := of_decide_eq_true e
    omega
  · rw [decide_eq_false h]
    by_cases q : (us.any fun g => decide (us.count g > 1)) = true
    · exact q
    · refine absurd (List.nodup_iff_count.mpr fun a => ?_) h
      by_cases ha : a ∈ us
      · by_cases c : us.count a ≤ 1
        · exact c
        · exact absurd (List.any_eq_true.mpr ⟨a, ha, decide_eq_true (by omega)⟩) q
      · rw [List.count_eq_zero_of_not_mem ha]
        omega
theorem call_isiN (K : PySem.W.Frag) {X : Cx} (h : X.K = K) : CallR X (.builtin "isinstance") (rIsi K) := h ▸ call_isi
section
variable {P : Program} {w : World} {K : PySem.W.Frag} {mg : Str → Option Value} {base : Heap}
theorem walkZip {a b : Addr} (us vs : List Str) : Walk (RZ.ItzT K a b) (us.zip vs).length (fun H => SqT K H a (us.map V.str) ∧ SqT K H b (vs.map V.str))
    (fun i H x H' => ∃ T p, x = .ref T ∧ H T = none ∧ H' = upd H T (.tup [.str p.1, .str p.2]) ∧ (us.zip vs)[i]? = some p) := by
  have hl : (us.zip vs).length = min us.length vs.length := List.length_zip
  refine ⟨fun i H hi q => ⟨_, _, .str us[i], .str vs[i], q.1, q.2, by simp [show i < us.length by omega], by simp [show i < vs.length by omega]⟩, fun H q => ⟨_, _, q.1, q.2, by simp; omega⟩, fun i H x H' hi q y => ?_⟩
  obtain ⟨T, x1, y1, h1, h2, h3, h4, h5⟩ := y
  have e1 := h4 _ q.1
  have e2 := h5 _ q.2
  rw [List.getElem?_map, List.getElem?_eq_getElem (by omega)] at e1 e2
  have e3 := (Option.some.inj e1).symm
  have e4 := (Option.some.inj e2).symm
  subst e3 e4
  exact ⟨T, (us[i], vs[i]), h1, h2, h3, by rw [List.getElem?_eq_getElem hi, List.getElem_zip]⟩
theorem rd_ringzip {σ : L2.St} {H : Hp} {R : VK} {i j l : Nat} {t : Addr} {lv : V} {thing : List Str} {pairs : List PP} (h1 : σ[i]? = some (some (.ref t))) (hj : ∀ v, ((wipe σ [j]).set j (some v))[j]? = some (some v)) (hl : ∀ v, ((wipe σ [j]).set j (some v))[l]? = some (some lv))
    (hw : ∀ v, wipe ((wipe σ [j]).set j (some v)) [j] = wipe σ [j]) (hT : SqT K H t (thing.map V.str)) (hP : Dp K H lv (dLP pairs)) (hz : thing.length ≤ 200)
    (k : ∀ H', Same H H' → R (.bl ((thing.zip (thing.drop 1 ++ thing.take 1)).all fun p => decide (p ∈ pairs))) H') :
    tCB (rAll K) (tCons (tLc (iZipN K (tCons (tVar i) (tCons (tOp (rCatA K) (tSl (rSlA K) (tVar i) (tPart (tC (.int 1))) tNoPart) (tSl (rSlA K) (tVar i) tNoPart (tPart (tC (.int 1))))) tNil))) (gName j) tYes (tOp (rInB K dP false) (tVar j) (tVar l)) [j]) tNil) σ H R := by
  refine ⟨_, h1, _, h1, 1, rfl, ?_⟩
  dsimp only [tNoPart]
  refine rd_slA hT fun H1 a1 s1 t1 => ⟨_, h1, 1, rfl, ?_⟩
  refine rd_slA (s1.sqt hT) fun H2 a2 s2 t2 => rd_catA (s2.sqt t1) t2 ?_ fun H3 a3 s3 t3 => ?_
  · have l1 := cutV_length (thing.map V.str) (some 1) none
    have l2 := cutV_length (thing.map V.str) none (some 1)
    rw [List.length_map] at l1 l2
    unfold sizeLine
    omega
  rw [show (1 : Int) = ((1 : Nat) : Int) from rfl, cut_drop, cut_take, ← List.map_drop, ← List.map_take, ← List.map_append] at t3
  have s13 := (s1.trans s2).trans s3
  refine ⟨t, a3, _, _, rfl, s13.sqt hT, t3, fun D hD => ?_⟩
  have zl : (thing.zip (thing.drop 1 ++ thing.take 1)).length ≤ 200 := by rw [List.length_zip]; omega
  refine lc_dat (K := K) (thing.zip (thing.drop 1 ++ thing.take 1)) (fun p => some (.bool (decide (p ∈ pairs)))) (walkZip _ _) (fun _ d h => by cases h; rfl) (sz100 (by omega)) hD (fun H' z => ⟨(s13.trans z).sqt hT, z.sqt t3⟩) ?_ ?_
  · rintro n p x H4 _ W N ep s4 ⟨T0, p', rfl, hT0, rfl, ep'⟩ kW kN
    rw [ep] at ep'
    cases ep'
    have s5 := same_new hT0 (o := .tup [.str p.1, .str p.2])
    refine ⟨hw _, ?_⟩
    exact ⟨_, hj _, _, hl _, rd_inB (dP_of (.inl (.inl upd_same))) (Dp.same ((s13.trans s4).trans s5) _ hP) (kW _ _ _ s5 rfl (.bl _))⟩
  · intro H4 zs s4 e1 e2
    have e3 := bools_fm (fun p : PP => decide (p ∈ pairs)) e2
    subst e3
    refine ⟨D, _, rfl, SqL.of e1, ?_⟩
    have kk := k _ (s13.trans s4)
    rw [List.all_map]
    exact kk
/-! ### shows_ring -/
def sp_shows_ring (K : PySem.W.Frag) : Sp := fun vs H Q _ => ∃ (ev wv lv : V) (t : Addr) (e : Ev) (way words : List PP) (thing : List Str), vs = [ev, wv, lv, .ref t] ∧ Dp K H ev (dE e) ∧ Dp K H wv (dTP way) ∧ Dp K H lv (dLP words) ∧ TupK H t (thing.map V.str) ∧ WayOk e way ∧ e.whyNot way = none ∧
  words.length ≤ 1000 ∧ thing.length ≤ 200 ∧ ∀ H', Same H H' → Q (.bl (ringB thing (e.pairs way words))) H'
theorem sc_shows_ring : FnScope ["evening", "way", "words", "thing", "pairs", "guest", "pair"] ["evening", "way", "words", "thing"] (defScope s_shows_ring) := ⟨rfl, rfl, rfl, by decide +kernel, rfl, by decide +kernel, by decide +kernel⟩
theorem ok_shows_ring (T : Tx K mg) : FnOk P w K mg base CX0 8 (He.ga K "shows_ring") T.fd_shows_ring ["evening", "way", "words", "thing"] (sp_shows_ring K) := by
  refine T.F_shows_ring.ok sc_shows_ring (fun vs H Q E h => ?_) (fun cdv A outer s H vs Q E hr h => ?_)
  · obtain ⟨ev, wv, lv, t, e, way, words, thing, rfl, _⟩ := h
    rfl
  obtain ⟨ev, wv, lv, t, e, way, words, thing, rfl, hE, hW, hL, hT, ok, why, h2, h3, k⟩ := h
  refine ⟨_, PSs.nox (pss_cons (ps_if (PW.pt (pw_or (pt_not (pt_val (pe_call (ok_can_be T) (hr.mono (by decide)) rfl T.g_can_be T.F_can_be.kp T.b_can_be .nil pass0 (pa_cons (pv 0) (pa_cons (pv 1) pa_nil))))) (pw_or (pt_not (pt_val (pe_callB (call_isiN K rfl) (by rfl) T.n_isinstance (by decide +kernel) (pa_cons (pv 3) (pa_cons (pe_bltn (v := .ty "tuple") (by rfl) T.n_tuple (by decide +kernel) rfl) pa_nil))))) (pw_or1 (pt_cmpR op_lt (pe_callB call_len_seq (by rfl) T.n_len (by decide +kernel) (pa_cons (pv 3) pa_nil)) pe_int (nomark _)))))) (pss_one (ps_ret pe_bl)) pss_nil)
      (pss_cons (ps_if (PW.pt (pw_or (pt_not (pt_val (pe_callB (cr_all rfl) (by rfl) T.n_all (by decide +kernel) (pa_cons (pe_lc (own := [("guest", 5)]) (g := gName 5) rfl sc_shows_ring.nd (pi_tup (pv 3)) (blkOk_by (own := [("guest", 5)]) (N := ["evening", "way", "words", "thing", "pairs", "guest", "pair"]) (sc := defScope s_shows_ring) (by decide +kernel)) (fun _ _ _ _ _ => (pg_name (i := 5) sc_shows_ring.nd rfl (Or.inl rfl))) (fun _ _ _ _ _ => pts_nil) (fun _ _ _ _ _ => (pe_callB (call_isiN K rfl) (by rfl) T.n_isinstance (by decide +kernel) (pa_cons (pv 5) (pa_cons (pe_bltn (v := .ty "str") (by rfl) T.n_str (by decide +kernel) rfl) pa_nil))))) pa_nil)))) (pw_or1 (pt_cmpR op_lt (pe_callB call_lenD (by rfl) T.n_len (by decide +kernel) (pa_cons (pe_dc (own := [("guest", 5)]) (g := gName 5) rfl sc_shows_ring.nd (pi_tup (pv 3)) (blkOk_by (own := [("guest", 5)]) (N := ["evening", "way", "words", "thing", "pairs", "guest", "pair"]) (sc := defScope s_shows_ring) (by decide +kernel)) (fun _ _ _ _ _ => (pg_name (i := 5) sc_shows_ring.nd rfl (Or.inl rfl))) (fun _ _ _ _ _ => pts_nil) (fun _ _ _ _ _ => (pv 5)) (fun _ _ _ _ _ => pe_bl)) pa_nil)) (pe_callB call_len_seq (by rfl) T.n_len (by decide +kernel) (pa_cons (pv 3) pa_nil)) (nomark _))))) (pss_one (ps_ret pe_bl)) pss_nil)
      (pss_cons (ps_set (i := 4) sc_shows_ring.nd rfl (Or.inr rfl) (pe_call (ok_pairs_of T) (hr.mono (by decide)) rfl T.g_pairs_of T.F_pairs_of.kp T.b_pairs_of .nil pass0 (pa_cons (pv 0) (pa_cons (pv 1) (pa_cons (pv 2) pa_nil)))))
      (pss_one (ps_ret (pe_callB (cr_all rfl) (by rfl) T.n_all (by decide +kernel) (pa_cons (pe_lc (own := [("pair", 6)]) (g := gName 6) rfl sc_shows_ring.nd (pi_zipN (by rfl) T.n_zip (pa_cons (pv 3) (pa_cons (pe_op op_catA (pe_slice sl_tupA (pv 3) (po_some pe_int) po_none) (pe_slice sl_tupA (pv 3) po_none (po_some pe_int))) pa_nil))) (blkOk_by (own := [("pair", 6)]) (N := ["evening", "way", "words", "thing", "pairs", "guest", "pair"]) (sc := defScope s_shows_ring) (by decide +kernel)) (fun _ _ _ _ _ => (pg_name (i := 6) sc_shows_ring.nd rfl (Or.inl rfl))) (fun _ _ _ _ _ => pts_nil) (fun _ _ _ _ _ => (pe_cmpR (op_inBK K rfl encP hr) (pv 6) (pv 4) rfl))) pa_nil))))))), ?_⟩
  unfold ringB at k
  refine ⟨_, rfl, _, rfl, _, _, e, way, rfl, hE, hW, ok.len, ok.sub, ok.rack, fun H1 s1 => ⟨_, rfl, ?_⟩⟩
  rw [why]
  obtain ⟨ob, eT, oT1, oT2⟩ := id (hT.same s1)
  refine iteF ⟨_, rfl, _, _, _, _, true, rfl, .ty _, .fTuple eT, kit_ty (by decide +kernel), _, rfl, ?_⟩
  refine iteF ⟨_, rfl, t, _, rfl, .inr (hT.same s1).sqt, _, _, rfl, rfl, _, rfl, ?_⟩
  rw [List.length_map]
  by_cases hl : thing.length < 2
  · rw [decide_eq_true (show (thing.length : Int) < 2 by omega)]
    have kk := k _ s1
    rw [decide_eq_false (by omega)] at kk
    exact iteT kk
  rw [decide_eq_false (show ¬ (thing.length : Int) < 2 by omega)]
  rw [decide_eq_true (show 2 ≤ thing.length by omega)] at k
  refine iteF ?_
  -- texts, unlike
  refine ⟨_, rfl, t, rfl, ⟨_, (hT.same s1).sqt⟩, fun D hD => ?_⟩
  refine lc_dat (K := K) thing (fun _ => some (.bool true)) (walkS thing) (fun _ d h => by cases h; rfl) (sz100 (by omega)) hD (fun H' z => (hT.same (s1.trans z)).sqt) ?_ ?_
  · rintro i g x H2 _ W N eg s2 ⟨rfl, u, eu, rfl⟩ kW kN
    exact ⟨rfl, _, rfl, _, _, _, _, true, rfl, .ty _, .base (.str _), kit_ty (by decide +kernel), kW _ _ _ (fun _ _ h => h) rfl (.bl true)⟩
  · intro H2 zs s2 e1 e2
    have e3 := bools_fm (fun _ : Str => true) e2
    subst e3
    have all : ((thing.map fun _ => true).all id) = true := by simp
    refine ⟨D, _, rfl, SqL.of e1, _, rfl, ?_⟩
    rw [all]
    have s12 := s1.trans s2
    refine iteF ⟨_, rfl, t, rfl, ⟨_, (hT.same s12).sqt⟩, fun D2 hD2 => ?_⟩
    refine dc_dat thing (fun g => g) (fun _ => .bl true) (walkS thing) (sz100 (by omega)) hD2 (fun H' z => (hT.same (s12.trans z)).sqt) ?_ ?_
    · rintro i g x H3 _ W N eg s3 ⟨rfl, u, eu, rfl⟩ kW
      rw [eg] at eu
      cases eu
      exact ⟨rfl, _, rfl, kW _ (fun _ _ h => h)⟩
    · intro H3 s3 hD3
      have e4 := fold_true thing []
      rw [show ([] : List (Key × V)) = trueD [] from rfl, e4] at hD3
      have s13 := s12.trans s3
      refine ⟨D2, _, rfl, hD3, ?_⟩
      refine ⟨_, rfl, t, _, rfl, .inr (hT.same s13).sqt, _, _, rfl, rfl, _, rfl, ?_⟩
      have hb : decide (((trueD (addAll [] thing)).length : Int) < ((thing.map V.str).length : Int)) = !decide thing.Nodup := by
        rw [← keys_lt]
        have tl : (trueD (addAll [] thing)).length = (addAll [] thing).length := List.length_map _
        rw [tl, List.length_map]
        exact decide_eq_decide.mpr (by omega)
      rw [hb]
      by_cases hn : thing.Nodup
      · rw [decide_eq_true hn] at k ⊢
        refine iteF ⟨_, rfl, _, rfl, _, rfl, _, _, _, e, way, words, rfl, Dp.same s13 _ hE, Dp.same s13 _ hW, Dp.same s13 _ hL, ok, why, h2, fun H4 v s4 hv => ?_⟩
        obtain ⟨pl, ws, rfl, hpl, hws⟩ := hv
        have s14 := s13.trans s4
        exact rd_ringzip (pairs := e.pairs way words) rfl (fun _ => rfl) (fun _ => rfl) (fun _ => rfl) (hT.same s14).sqt (.lst (SqL.of hpl) hws) h3 fun H5 s5 => k _ (s14.trans s5)
      · rw [decide_eq_false hn] at k ⊢
        exact iteT (k _ s13)
/-! ### fewest_words -/
def Ev.fewest (e : Ev) (order : List Str) : List PP := (order.zip (order.drop 1)).filter fun p => !decide (p ∈ e.needs (e.way order))
def sp_fewest_words (K : PySem.W.Frag) : Sp := fun vs H Q _ => ∃ (ev gv : V) (e : Ev) (gs : List Str), vs = [ev, gv] ∧ Dp K H ev (dE e) ∧ Dp K H gv (dT gs) ∧ gs.length ≤ 100 ∧ gs.Nodup ∧ (∀ g ∈ gs, g ∈ e.guests) ∧ gs.length ≤ e.rack.length ∧ WayOk e (e.way gs) ∧ e.whyNot (e.way gs) = none ∧
  ∀ H' v, Same H H' → LL K H' v ((e.fewest gs).map dP) → Q v H'
theorem sc_fewest_words : FnScope ["evening", "order", "due", "pair"] ["evening", "order"] (defScope s_fewest_words) := ⟨rfl, rfl, rfl, by decide +kernel, rfl, by decide +kernel, by decide +kernel⟩
theorem ok_fewest_words (T : Tx K mg) : FnOk P w K mg base CX0 7 (He.ga K "fewest_words") T.fd_fewest_words ["evening", "order"] (sp_fewest_words K) := by
  refine T.F_fewest_words.ok sc_fewest_words (fun vs H Q E h => ?_) (fun cdv A outer s H vs Q E hr h => ?_)
  · obtain ⟨ev, gv, e, gs, rfl, _⟩ := h
    rfl
  obtain ⟨ev, gv, e, gs, rfl, hE, hG, h1, h2, h3, h4, ok, why, k⟩ := h
  refine ⟨_, PSs.nox (pss_cons (ps_set (i := 2) sc_fewest_words.nd rfl (Or.inr rfl) (pe_call (ok_needs T) (hr.mono (by decide)) rfl T.g_needs T.F_needs.kp T.b_needs .nil pass0 (pa_cons (pv 0) (pa_cons (pe_call (ok_way_of T) (hr.mono (by decide)) rfl T.g_way_of T.F_way_of.kp T.b_way_of .nil pass0 (pa_cons (pv 0) (pa_cons (pv 1) pa_nil))) pa_nil))))
      (pss_one (ps_ret (pe_lc (own := [("pair", 3)]) (g := gName 3) rfl sc_fewest_words.nd (pi_zipN (by rfl) T.n_zip (pa_cons (pv 1) (pa_cons (pe_slice sl_tupA (pv 1) (po_some pe_int) po_none) pa_nil))) (blkOk_by (own := [("pair", 3)]) (N := ["evening", "order", "due", "pair"]) (sc := defScope s_fewest_words) (by decide +kernel)) (fun _ _ _ _ _ => (pg_name (i := 3) sc_fewest_words.nd rfl (Or.inl rfl))) (fun _ _ _ _ _ => pts_one (pt_cmpR (op_notInBK K rfl encP hr) (pv 3) (pv 2) rfl)) (fun _ _ _ _ _ => (pv 3)))))), ?_⟩
  obtain ⟨q, rfl, hq⟩ := dT_at hG
  refine ⟨_, rfl, _, rfl, _, rfl, _, _, e, gs, rfl, hE, hG, h1, h2, h3, h4, ok.rack, fun H1 v s1 hv => ?_⟩
  refine ⟨_, _, e, e.way gs, rfl, Dp.same s1 _ hE, hv, ok, why, fun H2 v2 s2 hv2 => ?_⟩
  obtain ⟨nl, zs, rfl, hnl, hzs⟩ := hv2
  have s12 := s1.trans s2
  refine ⟨_, rfl, _, rfl, 1, rfl, ?_⟩
  dsimp only [tNoPart]
  refine rd_slA (s12.sqt hq) fun H3 a3 s3 t3 => ?_
  rw [show (1 : Int) = ((1 : Nat) : Int) from rfl, cut_drop, ← List.map_drop] at t3
  have s13 := s12.trans s3
  refine ⟨q, a3, _, _, rfl, s13.sqt hq, t3, fun D hD => ?_⟩
  have zl : (gs.zip (gs.drop 1)).length ≤ 100 := by rw [List.length_zip]; omega
  refine lc_dat (K := K) (gs.zip (gs.drop 1)) (fun p => if !decide (p ∈ e.needs (e.way gs)) then some (dP p) else none) (walkZip _ _) (fun p d h => ?_) (sz100 (by omega)) hD (fun H' z => ⟨(s13.trans z).sqt hq, z.sqt t3⟩) ?_ ?_
  · rw [some_if (p := fun p => !decide (p ∈ e.needs (e.way gs))) h]
    rfl
  · rintro n p x H4 _ W N ep s4 ⟨T0, p', rfl, hT0, rfl, ep'⟩ kW kN
    rw [ep] at ep'
    cases ep'
    have s5 := same_new hT0 (o := .tup [.str p.1, .str p.2])
    have hp5 : Dp K (upd H4 T0 (.tup [.str p.1, .str p.2])) (.ref T0) (dP p) := dP_of (.inl (.inl upd_same))
    have s45 := (s3.trans s4).trans s5
    refine ⟨rfl, _, rfl, _, rfl, rd_ninB hp5 (.lst (SqL.of (s45 _ _ hnl)) (DpAll.same s45 _ hzs)) ⟨_, rfl, ?_⟩⟩
    refine ite2 (fun y2 => ⟨_, rfl, kW _ _ _ s5 (by rw [if_pos y2]) hp5⟩) (fun y2 => kN _ s5 (by rw [if_neg y2]))
  · intro H4 zs4 s4 e1 e2
    rw [filterMap_if (fun p => !decide (p ∈ e.needs (e.way gs))) dP] at e2
    exact k _ _ (s13.trans s4) ⟨D, zs4, rfl, e1, e2⟩
end
end WC
namespace WC
open PySem PySem.Spec PyProof.Rows L2
section
variable {P : Program} {w : World} {K : PySem.W.Frag} {mg : Str → Option Value} {base : Heap}
/-! ### _law_seeks -/
theorem sc_L_seeks : FnScope ["_law_night_here", "_law_name"] ["_law_night_here", "_law_name"] (defScope s_L_seeks) := ⟨rfl, rfl, rfl, by decide +kernel, rfl, by decide +kernel, by decide +kernel⟩
theorem ok_L_seeks (T : Tx K mg) : FnOk P w K mg base CX0 1 (He.ga K "_law_seeks") T.fd_L_seeks ["_law_night_here", "_law_name"] (sp_is_seeker K) := by
  refine T.F_L_seeks.ok sc_L_seeks (fun vs H Q E h => ?_) (fun cdv A outer s H vs Q E hr h => ?_)
  · obtain ⟨ev, e, g, rfl, _⟩ := h
    rfl
  obtain ⟨ev, e, g, rfl, hE, k⟩ := h
  refine ⟨_, PSs.nox (pss_one (ps_ret (pe_and (pe_cmpR op_in_seq (pv 1) (pe_ix ix_tup (pv 0) pe_int (fun _ _ => rfl)) rfl) (pe_and (pe_cmpR op_notIn_seq (pv 1) (pe_ix ix_tup (pv 0) pe_int (fun _ _ => rfl)) rfl) (pe_one (pe_cmpR op_in_seq (pv 1) (pe_ix ix_tup (pv 0) pe_int (fun _ _ => rfl)) rfl)))))), ?_⟩
  obtain ⟨p, a, b, c, rfl, hp, ha, hb, hc⟩ := dE_at hE
  refine ⟨_, rfl, _, rfl, p, _, 1, _, rfl, rfl, hp, rfl, rd_in (.inr hb) ⟨_, rfl, ?_⟩⟩
  unfold Ev.seek at k
  refine ite2 (fun h1 => ?_) (fun h1 => ?_)
  · rw [h1] at k
    refine ⟨_, rfl, _, rfl, p, _, 2, _, rfl, rfl, hp, rfl, rd_nin (.inr hc) ⟨_, rfl, ?_⟩⟩
    refine ite2 (fun h2 => ?_) (fun h2 => ?_)
    · rw [h2] at k
      exact ⟨_, rfl, _, rfl, p, _, 0, _, rfl, rfl, hp, rfl, rd_in (.inr ha) k⟩
    · rw [Bool.eq_false_iff.mpr h2] at k
      exact k
  · rw [Bool.eq_false_iff.mpr h1] at k
    exact k
/-! ### _law_went -/
def sp_L_went (K : PySem.W.Frag) : Sp := fun vs H Q _ => ∃ (ev gv : V) (e : Ev) (gs : List Str), vs = [ev, gv] ∧ Dp K H ev (dE e) ∧ Dp K H gv (dT gs) ∧ gs.length ≤ e.rack.length ∧ e.rack.length ≤ 100 ∧
  ∀ H' v, Same H H' → Dp K H' v (dTP (e.way gs)) → Q v H'
theorem sc_L_went : FnScope ["_law_night_here", "_law_row", "_law_left", "_law_found", "_law_guest", "_law_coat"] ["_law_night_here", "_law_row"] (defScope s_L_went) := ⟨rfl, rfl, rfl, by decide +kernel, rfl, by decide +kernel, by decide +kernel⟩
theorem ok_L_went (T : Tx K mg) : FnOk P w K mg base CX0 2 (He.ga K "_law_went") T.fd_L_went ["_law_night_here", "_law_row"] (sp_L_went K) := by
  refine T.F_L_went.ok sc_L_went (fun vs H Q E h => ?_) (fun cdv A outer s H vs Q E hr h => ?_)
  · obtain ⟨ev, gv, e, gs, rfl, _⟩ := h
    rfl
  obtain ⟨ev, gv, e, gs, rfl, hE, hG, hle, hrk, k⟩ := h
  refine ⟨_, PSs.nox (pss_cons (ps_par (i := 2) (j := 3) rfl sc_L_went.nd rfl rfl (by decide) rfl rfl (pa_cons (pe_callTy call_list_of (by rfl) T.n_list (by decide +kernel) (pa_cons (pe_ix ix_tup (pv 0) pe_int (fun _ _ => rfl)) pa_nil)) (pa_cons (pe_lst pa_nil) pa_nil)) rfl)
      (pss_cons (ps_for PassesOwn.never rfl (pi_tup (pv 1)) (pg_name (i := 4) sc_L_went.nd rfl (Or.inl rfl)) (pss_cons (ps_set (i := 5) sc_L_went.nd rfl (Or.inl rfl) (pe_ifExp (PW.pt (pw_and (pt_val (pe_call (ok_L_seeks T) (hr.mono (by decide)) rfl T.g_L_seeks T.F_L_seeks.kp T.b_L_seeks .nil pass0 (pa_cons (pv 0) (pa_cons (pv 4) pa_nil)))) (pw_and1 (pt_cmpR op_in_seq (pv 4) (pv 2) rfl)))) (pv 4) (pe_ix ix_list (pv 2) pe_int (fun _ _ => rfl))))
      (pss_cons (ps_expr (pe_bm PySem.F.plainAttrs_list PySem.F.slot_list_remove PySem.F.type_list_remove (mt_removeS hr) (pv 2) (pa_cons (pv 5) pa_nil)))
      (pss_one (ps_expr (pe_bm PySem.F.plainAttrs_list PySem.F.slot_list_append PySem.F.type_list_append mt_append (pv 3) (pa_cons (pe_tup (pa_cons (pv 4) (pa_cons (pv 5) pa_nil))) pa_nil)))))))
      (pss_one (ps_ret (pe_callTy call_tuple_of (by rfl) T.n_tuple (by decide +kernel) (pa_cons (pe_callB (cr_sortedPS hr) (by rfl) T.n_sorted (by decide +kernel) (pa_cons (pv 3) pa_nil)) pa_nil)))))), ?_⟩
  obtain ⟨p, a, b, l, rfl, hp, ha, hb, hl⟩ := dE_at hE
  obtain ⟨q, rfl, hq⟩ := dT_at hG
  refine ⟨_, rfl, p, _, 0, _, rfl, rfl, hp, rfl, a, _, rfl, .inr ha, fun L hL => ?_⟩
  refine ⟨by decide, fun F hF => ?_⟩
  have nFL : F ≠ L := fun z => by rw [z, upd_same] at hF; cases hF
  have s2 : Same H (upd (upd H L (.lst (e.rack.map V.str))) F (.lst [])) := (same_new hL).new hF
  have fF : H F = none := (same_new hL).free hF
  refine ⟨_, _, rfl, ?_⟩
  refine ⟨_, rfl, q, rfl, ⟨_, s2.sqt hq⟩, ?_⟩
  refine for_it (walkS gs) (fun i σ H' => (∃ x y, σ = [some (.ref p), some (.ref q), some (.ref L), some (.ref F), x, y]) ∧ Same H H' ∧ ∃ (left : List Str) (found : List PP) (zs : List V),
    H' L = some (.lst (left.map V.str)) ∧ H' F = some (.lst zs) ∧ DpAll K H' zs (found.map dP) ∧ e.goes gs = found ++ e.run left (gs.drop i) ∧ left.length + i = e.rack.length ∧ found.length = i)
    ⟨⟨_, _, rfl⟩, s2, e.rack, [], [], by rw [upd_ne nFL.symm]; exact upd_same, upd_same, .nil, rfl, rfl, rfl⟩ (fun i σ H' _ h => h.2.1.sqt hq) ?_ ?_
  · rintro i x σ _ H2 hi ⟨⟨y, z, rfl⟩, s3, left, found, zs, h1, h2, h3, h4, h5, h6⟩ ⟨rfl, u, eu, rfl⟩
    have dE2 := Dp.same s3 _ hE
    have ne : left ≠ [] := fun z => by subst z; simp at h5; omega
    have cm := coat_mem (e := e) (g := u) ne
    refine rd_coat rfl rfl rfl dE2 h1 ne ?_
    refine ⟨_, rfl, .inl ⟨rfl, _, SqL.of h1⟩, _, rfl, L, left, _, rfl, rfl, h1, cm, ?_⟩
    have hF2 : (upd H2 L (.lst ((left.erase (e.coat left u)).map V.str))) F = some (.lst zs) := by rw [upd_ne nFL]; exact h2
    refine ⟨_, rfl, .inl ⟨rfl, _, SqL.of hF2⟩, _, rfl, _, rfl, sz2, fun t ht => ?_⟩
    have s4 := s3.mut hL (o := .lst ((left.erase (e.coat left u)).map V.str))
    have h3' := DpAll.mutL (o := .lst ((left.erase (e.coat left u)).map V.str)) h1 _ (lless_dPs found) h3
    obtain ⟨h2', h7⟩ := app_pair (x := u) (y := e.coat left u) hF2 h3' ht
    refine ⟨F, zs, _, rfl, rfl, h2', ?_, ⟨_, _, rfl⟩, (s4.new ht).mut fF, left.erase (e.coat left u), found ++ [(u, e.coat left u)], zs ++ [.ref t], ?_, upd_same, h7, ?_, ?_, ?_⟩
    · have := h3.length
      rw [List.length_map] at this
      unfold sizeLine
      omega
    · rw [upd_ne nFL.symm, upd_ne (ne_of_none upd_same ht)]
      exact upd_same
    · rw [h4, drop_get eu, List.append_assoc]
      rfl
    · rw [List.length_erase_of_mem cm]
      have := List.length_pos_iff.mpr ne
      omega
    · rw [List.length_append, h6]
      rfl
  · rintro σ H2 ⟨⟨y, z, rfl⟩, s3, left, found, zs, h1, h2, h3, h4, h5, h6⟩
    rw [List.drop_length] at h4
    have h8 : e.goes gs = found := by rw [h4]; simp [Ev.run]
    refine ⟨_, rfl, F, found, rfl, .lst (SqL.of h2) h3, fun r ys hr2 hys => ⟨r, ys, rfl, .inl ⟨SqL.of upd_same, fun l2 hl2 => ?_⟩⟩⟩
    refine k _ _ ((s3.new hr2).new hl2) (.tup (.inl (.inl upd_same)) (DpAll.same (same_new hl2) _ (DpAll.same (same_new hr2) _ ?_)))
    unfold Ev.way
    rw [h8]
    exact hys
/-! ### _law_has_all -/
def sp_L_has_all (K : PySem.W.Frag) : Sp := fun vs H Q _ => ∃ (t : Addr) (wv : V) (order : List Str) (words : List PP), vs = [.ref t, wv] ∧ TupK H t (order.map V.str) ∧ Dp K H wv (dLP words) ∧ words.length ≤ 1000 ∧
  (∀ p ∈ words, p.1 ∈ order ∧ p.2 ∈ order) ∧ ∀ H', Same H H' → Q (.bl (hasWords order words)) H'
theorem sc_L_has_all : FnScope ["_law_row", "_law_pairs", "_law_one", "_law_other"] ["_law_row", "_law_pairs"] (defScope s_L_has_all) := ⟨rfl, rfl, rfl, by decide +kernel, rfl, by decide +kernel, by decide +kernel⟩
theorem ok_L_has_all (T : Tx K mg) : FnOk P w K mg base CX0 1 (He.ga K "_law_has_all") T.fd_L_has_all ["_law_row", "_law_pairs"] (sp_L_has_all K) := by
  refine T.F_L_has_all.ok sc_L_has_all (fun vs H Q E h => ?_) (fun cdv A outer s H vs Q E hr h => ?_)
  · obtain ⟨t, wv, order, words, rfl, _⟩ := h
    rfl
  obtain ⟨t, wv, order, words, rfl, hT, hW, h2, h3, k⟩ := h
  refine ⟨_, PSs.nox (pss_one (ps_ret (pe_callB (cr_all rfl) (by rfl) T.n_all (by decide +kernel) (pa_cons (pe_lc (own := [("_law_one", 2), ("_law_other", 3)]) (g := gTup K 2 (gCons (gName 2) (gCons (gName 3) gNil))) rfl sc_L_has_all.nd (pi_list (pv 1)) (blkOk_by (own := [("_law_one", 2), ("_law_other", 3)]) (N := ["_law_row", "_law_pairs", "_law_one", "_law_other"]) (sc := defScope s_L_has_all) (by decide +kernel)) (fun _ _ _ _ _ => (pg_tup rfl (pgs_cons (pg_name (i := 2) sc_L_has_all.nd rfl (Or.inl rfl)) (pgs_cons (pg_name (i := 3) sc_L_has_all.nd rfl (Or.inl rfl)) pgs_nil)))) (fun _ _ _ _ _ => pts_nil) (fun _ _ _ _ _ => (pe_cmpR op_lt (pe_tm PySem.F.slot_tuple_index PySem.F.type_tuple_index (mt_tindexK K rfl) (pv 0) (pv 2) ⟨rfl, rfl, rfl, rfl⟩) (pe_tm PySem.F.slot_tuple_index PySem.F.type_tuple_index (mt_tindexK K rfl) (pv 0) (pv 3) ⟨rfl, rfl, rfl, rfl⟩) (nomark _)))) pa_nil)))), ?_⟩
  obtain ⟨l, ws, rfl, hl, hws⟩ := dLP_at hW
  refine ⟨_, rfl, l, rfl, ⟨_, hl⟩, fun R hR => ?_⟩
  refine lc_dat (K := K) words (fun p => some (.bool (decide (order.idxOf p.1 < order.idxOf p.2)))) (walkLP hws) (fun p d h => by cases h; rfl) (sz100 h2) hR (fun H' z => z.seq hl) ?_ ?_
  · rintro i p x H2 _ W N ep s2 ⟨rfl, ex⟩ kW kN
    obtain ⟨u, rfl, hu⟩ := dP_at (Dp.same s2 _ (hws.at_map ep ex))
    refine ⟨u, _, rfl, hu, rfl, _, _, rfl, _, _, rfl, rfl, rfl, ?_⟩
    obtain ⟨m1, m2⟩ := h3 p (List.mem_iff_getElem?.mpr ⟨i, ep⟩)
    have hT2 := hT.same s2
    refine ⟨_, rfl, ⟨t, _, rfl, hT2⟩, _, rfl, t, order, p.1, rfl, rfl, hT2.sqt, m1, _, rfl, ⟨t, _, rfl, hT2⟩, _, rfl, t, order, p.2, rfl, rfl, hT2.sqt, m2, ?_⟩
    refine rd_I0 (kW _ _ _ (fun _ _ h => h) rfl ?_)
    rw [decide_eq_decide.mpr (show order.idxOf p.1 < order.idxOf p.2 ↔ ((order.idxOf p.1 : Nat) : Int) < ((order.idxOf p.2 : Nat) : Int) by omega)]
    exact .bl _
  · intro H2 zs s2 e1 e2
    have e3 := bools_fm (fun p : PP => decide (order.idxOf p.1 < order.idxOf p.2)) e2
    subst e3
    refine ⟨R, _, rfl, SqL.of e1, ?_⟩
    have kk := k _ s2
    unfold hasWords at kk
    rw [List.all_map]
    exact kk
/-! ### _law_is_ring -/
def sp_L_is_ring (K : PySem.W.Frag) : Sp := fun vs H Q _ => ∃ (t : Addr) (lv : V) (thing : List Str) (pairs : List PP), vs = [.ref t, lv] ∧ TupK H t (thing.map V.str) ∧ Dp K H lv (dLP pairs) ∧ thing.length ≤ 200 ∧ ∀ H', Same H H' → Q (.bl (ringB thing pairs)) H'
theorem sc_L_is_ring : FnScope ["_law_thing", "_law_pairs", "_law_guest", "_law_pair"] ["_law_thing", "_law_pairs"] (defScope s_L_is_ring) := ⟨rfl, rfl, rfl, by decide +kernel, rfl, by decide +kernel, by decide +kernel⟩
theorem ok_L_is_ring (T : Tx K mg) : FnOk P w K mg base CX0 1 (He.ga K "_law_is_ring") T.fd_L_is_ring ["_law_thing", "_law_pairs"] (sp_L_is_ring K) := by
  refine T.F_L_is_ring.ok sc_L_is_ring (fun vs H Q E h => ?_) (fun cdv A outer s H vs Q E hr h => ?_)
  · obtain ⟨t, lv, thing, pairs, rfl, _⟩ := h
    rfl
  obtain ⟨t, lv, thing, pairs, rfl, hT, hL, hz, k⟩ := h
  refine ⟨_, PSs.nox (pss_cons (ps_if (PW.pt (pw_or (pt_cmpR op_lt (pe_callB call_len_seq (by rfl) T.n_len (by decide +kernel) (pa_cons (pv 0) pa_nil)) pe_int (nomark _)) (pw_or1 (pt_val (pe_callB (cr_any rfl) (by rfl) T.n_any (by decide +kernel) (pa_cons (pe_lc (own := [("_law_guest", 2)]) (g := gName 2) rfl sc_L_is_ring.nd (pi_tup (pv 0)) (blkOk_by (own := [("_law_guest", 2)]) (N := ["_law_thing", "_law_pairs", "_law_guest", "_law_pair"]) (sc := defScope s_L_is_ring) (by decide +kernel)) (fun _ _ _ _ _ => (pg_name (i := 2) sc_L_is_ring.nd rfl (Or.inl rfl))) (fun _ _ _ _ _ => pts_nil) (fun _ _ _ _ _ => (pe_cmpR op_gt (pe_tm PySem.F.slot_tuple_count PySem.F.type_tuple_count (mt_tcountK K rfl hr) (pv 0) (pv 2) ⟨rfl, rfl, rfl, rfl⟩) pe_int (nomark _)))) pa_nil)))))) (pss_one (ps_ret pe_bl)) pss_nil)
      (pss_one (ps_ret (pe_callB (cr_all rfl) (by rfl) T.n_all (by decide +kernel) (pa_cons (pe_lc (own := [("_law_pair", 3)]) (g := gName 3) rfl sc_L_is_ring.nd (pi_zipN (by rfl) T.n_zip (pa_cons (pv 0) (pa_cons (pe_op op_catA (pe_slice sl_tupA (pv 0) (po_some pe_int) po_none) (pe_slice sl_tupA (pv 0) po_none (po_some pe_int))) pa_nil))) (blkOk_by (own := [("_law_pair", 3)]) (N := ["_law_thing", "_law_pairs", "_law_guest", "_law_pair"]) (sc := defScope s_L_is_ring) (by decide +kernel)) (fun _ _ _ _ _ => (pg_name (i := 3) sc_L_is_ring.nd rfl (Or.inl rfl))) (fun _ _ _ _ _ => pts_nil) (fun _ _ _ _ _ => (pe_cmpR (op_inBK K rfl encP hr) (pv 3) (pv 1) rfl))) pa_nil))))), ?_⟩
  unfold ringB at k
  refine ⟨_, rfl, t, _, rfl, .inr hT.sqt, _, _, rfl, rfl, _, rfl, ?_⟩
  rw [List.length_map]
  by_cases hl : thing.length < 2
  · rw [decide_eq_true (show (thing.length : Int) < 2 by omega)]
    have kk := k _ (fun _ _ h => h)
    rw [decide_eq_false (by omega)] at kk
    exact iteT (iteT kk)
  rw [decide_eq_false (show ¬ (thing.length : Int) < 2 by omega)]
  rw [decide_eq_true (show 2 ≤ thing.length by omega)] at k
  refine iteF ⟨_, rfl, t, rfl, ⟨_, hT.sqt⟩, fun D hD => ?_⟩
  refine lc_dat (K := K) thing (fun g => some (.bool (decide (thing.count g > 1)))) (walkS thing) (fun _ d h => by cases h; rfl) (sz100 (by omega)) hD (fun H' z => (hT.same z).sqt) ?_ ?_
  · rintro i g x H2 _ W N eg s2 ⟨rfl, u, eu, rfl⟩ kW kN
    rw [eg] at eu
    cases eu
    have hT2 := hT.same s2
    refine ⟨rfl, _, rfl, ⟨t, _, rfl, hT2⟩, _, rfl, t, thing, g, rfl, rfl, hT2.sqt, _, _, rfl, rfl, kW _ _ _ (fun _ _ h => h) rfl ?_⟩
    rw [decide_eq_decide.mpr (show thing.count g > 1 ↔ ((thing.count g : Nat) : Int) > 1 by omega)]
    exact .bl _
  · intro H2 zs s2 e1 e2
    have e3 := bools_fm (fun g : Str => decide (thing.count g > 1)) e2
    subst e3
    refine ⟨D, _, rfl, SqL.of e1, _, rfl, ?_⟩
    have e4 : ((thing.map fun g => decide (thing.count g > 1)).any id) = !decide thing.Nodup := by
      rw [List.any_map, ← any_count]
      rfl
    rw [e4]
    by_cases hn : thing.Nodup
    · rw [decide_eq_true hn] at k ⊢
      refine iteF ?_
      exact rd_ringzip (pairs := pairs) rfl (fun _ => rfl) (fun _ => rfl) (fun _ => rfl) (hT.same s2).sqt (Dp.same s2 _ hL) hz fun H5 s5 => k _ (s2.trans s5)
    · rw [decide_eq_false hn] at k ⊢
      exact iteT (k _ s2)
/-! ### _law_fewest_right -/
def swapAt (row : List Str) (i : Nat) : List Str := row.take i ++ [row.getD (i + 1) Str.empty, row.getD i Str.empty] ++ row.drop (i + 2)
def Ev.due (e : Ev) (row : List Str) : List PP := ((List.range (row.length - 1)).filter fun i => decide (e.way (swapAt row i) = e.way row)).map fun i => (row.getD i Str.empty, row.getD (i + 1) Str.empty)
theorem swap_len {row : List Str} {i : Nat} (h : i + 1 < row.length) : (swapAt row i).length = row.length := by
  unfold swapAt
  simp only [List.length_append, List.length_take, List.length_drop, List.length_cons, List.length_nil]
  omega
theorem getD_at {row : List Str} {i : Nat} (h : i < row.length) : row[i]? = some (row.getD i Str.empty) := by
  rw [List.getD_eq_getElem?_getD, List.getElem?_eq_getElem h]
  rfl
theorem atI_str {row : List Str} {i : Nat} (h : i < row.length) : atI (row.map V.str) ((i : Nat) : Int) = some (.str (row.getD i Str.empty)) := L2.atI_nat (by rw [List.getElem?_map, getD_at h]; rfl)
def sp_L_fewest_right (K : PySem.W.Frag) : Sp := fun vs H Q _ => ∃ (ev gv : V) (e : Ev) (gs : List Str), vs = [ev, gv] ∧ Dp K H ev (dE e) ∧ Dp K H gv (dT gs) ∧ gs.length ≤ 100 ∧ gs.Nodup ∧ (∀ g ∈ gs, g ∈ e.guests) ∧ gs.length ≤ e.rack.length ∧ WayOk e (e.way gs) ∧ e.whyNot (e.way gs) = none ∧
  e.fewest gs = e.due gs ∧ ∀ H', Same H H' → Q (.bl true) H'
theorem sc_L_fewest_right : FnScope ["_law_night_here", "_law_row", "_law_way", "_law_due", "_law_at"] ["_law_night_here", "_law_row"] (defScope s_L_fewest_right) := ⟨rfl, rfl, rfl, by decide +kernel, rfl, by decide +kernel, by decide +kernel⟩
theorem ok_L_fewest_right (T : Tx K mg) : FnOk P w K mg base CX0 8 (He.ga K "_law_fewest_right") T.fd_L_fewest_right ["_law_night_here", "_law_row"] (sp_L_fewest_right K) := by
  refine T.F_L_fewest_right.ok sc_L_fewest_right (fun vs H Q E h => ?_) (fun cdv A outer s H vs Q E hr h => ?_)
  · obtain ⟨ev, gv, e, gs, rfl, _⟩ := h
    rfl
  obtain ⟨ev, gv, e, gs, rfl, hE, hG, h1, h2, h3, h4, ok, why, due, k⟩ := h
  refine ⟨_, PSs.nox (pss_cons (ps_par (i := 2) (j := 3) rfl sc_L_fewest_right.nd rfl rfl (by decide) rfl rfl (pa_cons (pe_call (ok_L_went T) (hr.mono (by decide)) rfl T.g_L_went T.F_L_went.kp T.b_L_went .nil pass0 (pa_cons (pv 0) (pa_cons (pv 1) pa_nil))) (pa_cons (pe_lst pa_nil) pa_nil)) rfl)
      (pss_cons (ps_for PassesOwn.never rfl (pi_range1 (by rfl) T.n_range (pa_cons (pe_op op_sub (pe_callB call_len_seq (by rfl) T.n_len (by decide +kernel) (pa_cons (pv 1) pa_nil)) pe_int) pa_nil)) (pg_name (i := 4) sc_L_fewest_right.nd rfl (Or.inl rfl)) (pss_one (ps_if (pt_cmpR (op_eqB encTP hr) (pe_call (ok_L_went T) (hr.mono (by decide)) rfl T.g_L_went T.F_L_went.kp T.b_L_went .nil pass0 (pa_cons (pv 0) (pa_cons (pe_op op_catA (pe_op op_catA (pe_slice sl_tupA (pv 1) po_none (po_some (pv 4))) (pe_tup (pa_cons (pe_ix ix_tup (pv 1) (pe_op op_add (pv 4) pe_int) (fun _ _ => rfl)) (pa_cons (pe_ix ix_tup (pv 1) (pv 4) (fun _ _ => rfl)) pa_nil)))) (pe_slice sl_tupA (pv 1) (po_some (pe_op op_add (pv 4) pe_int)) po_none)) pa_nil))) (pv 2) (nomark _)) (pss_one (ps_expr (pe_bm PySem.F.plainAttrs_list PySem.F.slot_list_append PySem.F.type_list_append mt_append (pv 3) (pa_cons (pe_tup (pa_cons (pe_ix ix_tup (pv 1) (pv 4) (fun _ _ => rfl)) (pa_cons (pe_ix ix_tup (pv 1) (pe_op op_add (pv 4) pe_int) (fun _ _ => rfl)) pa_nil))) pa_nil)))) pss_nil)))
      (pss_one (ps_ret (pe_cmpR (op_eqB encLP hr) (pe_call (ok_fewest_words T) (hr.mono (by decide)) rfl T.g_fewest_words T.F_fewest_words.kp T.b_fewest_words .nil pass0 (pa_cons (pv 0) (pa_cons (pv 1) pa_nil))) (pv 3) (nomark _)))))), ?_⟩
  obtain ⟨q, rfl, hq⟩ := dT_at hG
  refine ⟨_, rfl, _, rfl, _, _, e, gs, rfl, hE, hG, h4, ok.rack, fun H1 v s1 hv => ⟨by decide, fun F hF => ⟨_, _, rfl, ?_⟩⟩⟩
  have s2 := s1.new hF (o := .lst [])
  have fF : H F = none := s1.free hF
  have hv2 := Dp.same (same_new hF (o := .lst [])) _ hv
  have eF : (upd H1 F (.lst [])) F = some (.lst []) := upd_same
  generalize upd H1 F (.lst []) = H2 at s2 hv2 eF
  refine ⟨_, rfl, q, _, rfl, .inr (s2.sqt hq), _, _, rfl, rfl, _, rfl, ?_⟩
  rw [List.length_map]
  refine ⟨by omega, by omega, ?_⟩
  rw [show ((gs.length : Int) - 1).toNat = gs.length - 1 by omega]
  obtain ⟨wl, ws, rfl, hwl, hws⟩ := dTP_at hv2
  refine for_it walk_range (fun i σ H' => ∃ (zs : List V) (y : Option V), σ = [some ev, some (.ref q), some (.ref wl), some (.ref F), y] ∧ Same H H' ∧ Dp K H' (.ref wl) (dTP (e.way gs)) ∧ H' F = some (.lst zs) ∧
    DpAll K H' zs ((((List.range i).filter fun i => decide (e.way (swapAt gs i) = e.way gs)).map fun i => (gs.getD i Str.empty, gs.getD (i + 1) Str.empty)).map dP))
    ⟨[], _, rfl, s2, hv2, eF, .nil⟩ (fun _ _ _ _ _ => trivial) ?_ ?_
  · rintro i x σ _ H3 hi ⟨zs, y, rfl, s3, hw3, eF3, hall⟩ ⟨rfl, ex⟩
    have ex2 : x = .int (i : Nat) := by rw [ex]; exact congrArg V.int (Int.zero_add _)
    subst ex2
    have hq3 := s3.sqt hq
    have at1 := atI_str (row := gs) (i := i + 1) (by omega)
    have at0 := atI_str (row := gs) (i := i) (by omega)
    refine ⟨_, rfl, _, rfl, _, rfl, _, rfl, rd_slA hq3 fun H4 a4 s4 t4 => ?_⟩
    rw [cut_take, ← List.map_take] at t4
    have hq4 := s4.sqt hq3
    refine ⟨_, rfl, _, rfl, _, _, rfl, rfl, q, _, _, _, rfl, rfl, hq4, at1, _, rfl, _, rfl, q, _, _, _, rfl, rfl, hq4, at0, sz2, fun t ht => ?_⟩
    have s5 := same_new ht (o := .tup [.str (gs.getD (i + 1) Str.empty), .str (gs.getD i Str.empty)])
    refine rd_catA (s5.sqt t4) (.inl (.inl upd_same)) ?_ fun H6 a6 s6 t6 => ?_
    · simp only [List.length_map, List.length_take, List.length_cons, List.length_nil]
      unfold sizeLine
      omega
    have s36 := (s4.trans s5).trans s6
    refine ⟨_, rfl, _, rfl, _, _, rfl, rfl, _, rfl, ?_⟩
    dsimp only [tNoPart]
    refine rd_slA (s36.sqt hq3) fun H7 a7 s7 t7 => ?_
    rw [show ((i : Int) + 2) = ((i + 2 : Nat) : Int) by omega, cut_drop, ← List.map_drop] at t7
    refine rd_catA (s7.sqt t6) t7 ?_ fun H8 a8 s8 t8 => ?_
    · simp only [List.length_map, List.length_take, List.length_cons, List.length_nil, List.length_append, List.length_drop]
      unfold sizeLine
      omega
    have s38 := (s36.trans s7).trans s8
    have t8' : SqT K H8 a8 ((swapAt gs i).map V.str) := by
      unfold swapAt
      rw [List.map_append, List.map_append]
      exact t8
    refine ⟨_, _, e, swapAt gs i, rfl, Dp.same (s3.trans s38) _ hE, dT_of t8', by rw [swap_len (by omega)]; exact h4, ok.rack, fun H9 v9 s9 hv9 => ?_⟩
    have s39 := s38.trans s9
    refine ⟨_, rfl, rd_eqB (a := e.way (swapAt gs i)) (b := e.way gs) hv9 (Dp.same s39 _ hw3) ⟨_, rfl, ?_⟩⟩
    have eF9 := s39 _ _ eF3
    have hall9 := DpAll.same s39 _ hall
    have hw9 := Dp.same s39 _ hw3
    have range1 : List.range (i + 1) = List.range i ++ [i] := List.range_succ
    refine ite2 (fun y1 => ?_) (fun y1 => ?_)
    · have hq9 := s39.sqt hq3
      refine ⟨_, rfl, .inl ⟨rfl, _, SqL.of eF9⟩, _, rfl, _, rfl, q, _, _, _, rfl, rfl, hq9, at0, _, rfl, _, rfl, _, _, rfl, rfl, q, _, _, _, rfl, rfl, hq9, at1, sz2, fun u hu => ?_⟩
      obtain ⟨h5, h6⟩ := app_pair (x := gs.getD i Str.empty) (y := gs.getD (i + 1) Str.empty) eF9 hall9 hu
      refine ⟨F, zs, _, rfl, rfl, h5, ?_, _, _, rfl, ((s3.trans s39).new hu).mut fF, ?_, upd_same, ?_⟩
      · have l1 := hall.length
        rw [List.length_map, List.length_map] at l1
        have l2 := List.length_filter_le (fun i => decide (e.way (swapAt gs i) = e.way gs)) (List.range i)
        rw [List.length_range] at l2
        unfold sizeLine
        omega
      · exact Dp.mutL h5 _ (lless_dPs _) (Dp.same (same_new hu) _ hw9)
      · rw [range1, List.filter_append, List.map_append]
        simp only [List.filter_cons, y1, if_true, List.filter_nil, List.map_cons, List.map_nil]
        exact h6
    · refine ⟨zs, _, rfl, s3.trans s39, hw9, eF9, ?_⟩
      rw [range1, List.filter_append, List.map_append]
      have e1 : (List.filter (fun i => decide (e.way (swapAt gs i) = e.way gs)) [i]) = [] := by
        rw [List.filter_cons, if_neg y1]
        rfl
      rw [e1, List.map_nil, List.append_nil]
      exact hall9
  · rintro σ H3 ⟨zs, y, rfl, s3, hw3, eF3, hall⟩
    refine ⟨_, rfl, _, rfl, _, _, e, gs, rfl, Dp.same s3 _ hE, Dp.same s3 _ hG, h1, h2, h3, h4, ok, why, fun H4 v4 s4 hv4 => ?_⟩
    refine ⟨_, rfl, rd_eqB (a := e.fewest gs) (b := e.due gs) hv4.dp ?_ ?_⟩
    · exact Dp.same s4 _ (.lst (SqL.of eF3) hall)
    · rw [due, decide_eq_true rfl]
      exact k _ (s3.trans s4)
end
end WC
namespace WC
open PySem PySem.Spec PyProof.Rows L2
/-- the box, drawn from so often at most -/
def BoxAt (H : Hp) (b : Addr) (c : Int) : Prop := ∃ i j k : Int, H b = some (.lst [.int i, .int j, .int k]) ∧ 0 ≤ i ∧ 0 ≤ j ∧ j < 2147483648 ∧ 0 ≤ k ∧ k ≤ c
theorem BoxAt.box {H : Hp} {b : Addr} {c : Int} (h : BoxAt H b c) : Box H b := let ⟨i, j, k, e, _⟩ := h; ⟨i, j, k, e⟩
theorem BoxAt.mono {H : Hp} {b : Addr} {c c' : Int} (h : BoxAt H b c) (l : c ≤ c') : BoxAt H b c' := let ⟨i, j, k, e, h1, h2, h3, h4, h5⟩ := h; ⟨i, j, k, e, h1, h2, h3, h4, by omega⟩
theorem BoxAt.same {H H' : Hp} {b : Addr} {c : Int} (h : BoxAt H b c) (s : Same H H') : BoxAt H' b c := let ⟨i, j, k, e, h1⟩ := h; ⟨i, j, k, s _ _ e, h1⟩
theorem intless_dPs : ∀ ps : List PP, intlessAll (ps.map dP) = true
  | [] => rfl
  | p :: ps => by
    show (intless (dP p) && intlessAll (ps.map dP)) = true
    rw [intless_dPs ps]
    rfl
theorem intless_strs : ∀ ps : List Str, intlessAll (ps.map PyData.str) = true
  | [] => rfl
  | p :: ps => by
    show (intless (.str p) && intlessAll (ps.map PyData.str)) = true
    rw [intless_strs ps]
    rfl
section
variable {P : Program} {w : World} {K : PySem.W.Frag} {mg : Str → Option Value} {base : Heap}
/-! ### _law_box -/
def sp_L_box (K : PySem.W.Frag) : Sp := fun vs H Q _ => ∃ (a : Addr) (ns : List Int) (k : Nat), vs = [.ref a, .int k] ∧ SqL K H a (ns.map V.int) ∧ k ≤ 10 ∧ ns.length ≤ 100 ∧ ∀ H' b, Same H H' → BoxAt H' b 0 → H b = none → Q (.ref b) H'
theorem box_tail {H : Hp} {k : Nat} {cell : Int} {x : Option V} {D : Ends} (hk : k ≤ 10) (kk : ∀ H' b, Same H H' → BoxAt H' b 0 → H b = none → D.rt (.ref b) H') :
    gName 2 (.int cell) [x, some (.int k), none] H (tRet (tLst (tCons (tOp (rI CMul fun i j => .int (i * j)) (tCB (fun xs H Q => ∃ i, xs = [.int i] ∧ Q (.int (if i < 0 then -i else i)) H) (tCons (tVar 2) tNil))
      (tCB (fun xs H Q => (∃ i, xs = [.int i] ∧ Q (.int i) H) ∨ ∃ k, xs = [.bl k] ∧ Q (.int (if k then 1 else 0)) H) (tCons (tOp (rI0 fun i j => V.bl (decide (j ≤ i))) (tCB (fun xs H Q => ∃ i, xs = [.int i] ∧ Q (.int (if i < 0 then -i else i)) H) (tCons (tVar 2) tNil))
        (tOp (rI CPow fun i j => .int (i ^ j.toNat)) (tC (.int 10)) (tC (.int 18)))) tNil)))
      (tCons (tOp (rI (fun _ j => 0 < j) fun i j => .int (i % j)) (tOp (rI CMul fun i j => .int (i * j)) (tOp (rI0 fun i j => .int (i + j)) (tOp (rI0 fun i j => .int (i + j)) (tOp (rI (fun _ j => 0 < j) fun i j => .int (i % j)) (tVar 2) (tC (.int 2147483629)))
        (tOp (rI CMul fun i j => .int (i * j)) (tC (.int 15485863)) (tVar 1))) (tC (.int 43))) (tC (.int 48271))) (tC (.int 2147483647))) (tCons (tC (.int 0)) tNil)))) D) := by
  refine ⟨_, rfl, _, rfl, _, rfl, _, rfl, 10, 18, rfl, rfl, ⟨by omega, by omega, by decide⟩, _, _, rfl, rfl, .inr ⟨_, rfl, _, _, rfl, rfl, .inr ?_, ?_⟩⟩
  · split <;> omega
  refine ⟨_, rfl, cell, 2147483629, rfl, rfl, by omega, _, rfl, 15485863, (k : Nat), rfl, rfl, .inl ⟨by omega, by omega⟩, _, _, rfl, rfl, _, _, rfl, rfl, _, _, rfl, rfl, .inr ⟨by omega, by omega⟩, _, _, rfl, rfl, by omega, by unfold sizeLine; simp, fun p hp => ?_⟩
  refine kk _ p (same_new hp) ⟨_, _, _, upd_same, ?_, ?_, ?_, by omega, by omega⟩ hp
  · refine Int.mul_nonneg ?_ ?_
    · split <;> omega
    · split <;> omega
  · exact Int.emod_nonneg _ (by omega)
  · have := Int.emod_lt_of_pos ((cell % 2147483629 + 15485863 * (k : Nat) + 43) * 48271) (show (0 : Int) < 2147483647 by omega)
    omega
theorem sc_L_box : FnScope ["_law_script", "_law_k", "_law_cell"] ["_law_script", "_law_k"] (defScope s_L_box) := ⟨rfl, rfl, rfl, by decide +kernel, rfl, by decide +kernel, by decide +kernel⟩
theorem ok_L_box (T : Tx K mg) : FnOk P w K mg base CX0 1 (He.ga K "_law_box") T.fd_L_box ["_law_script", "_law_k"] (sp_L_box K) := by
  refine T.F_L_box.ok sc_L_box (fun vs H Q E h => ?_) (fun cdv A outer s H vs Q E hr h => ?_)
  · obtain ⟨a, ns, k, rfl, _⟩ := h
    rfl
  obtain ⟨a, ns, k, rfl, ha, hk, hl, kk⟩ := h
  refine ⟨_, PSs.nox (pss_cons (ps_set (i := 2) sc_L_box.nd rfl (Or.inl rfl) (pe_ifExp (pt_cmpR op_lt (pv 1) (pe_callB call_len_seq (by rfl) T.n_len (by decide +kernel) (pa_cons (pv 0) pa_nil)) (nomark _)) (pe_ix ix_list (pv 0) (pv 1) (fun _ _ => rfl)) pe_int))
      (pss_one (ps_ret (pe_lst (pa_cons (pe_op op_mul (pe_callB call_abs (by rfl) T.n_abs (by decide +kernel) (pa_cons (pv 2) pa_nil)) (pe_callTy call_int1 (by rfl) T.n_int (by decide +kernel) (pa_cons (pe_cmpR op_ge (pe_callB call_abs (by rfl) T.n_abs (by decide +kernel) (pa_cons (pv 2) pa_nil)) (pe_op op_pow pe_int pe_int) (nomark _)) pa_nil))) (pa_cons (pe_op op_mod (pe_op op_mul (pe_op op_add (pe_op op_add (pe_op op_mod (pv 2) pe_int) (pe_op op_mul pe_int (pv 1))) pe_int) pe_int) pe_int) (pa_cons pe_int pa_nil))))))), ?_⟩
  refine ⟨_, rfl, _, rfl, a, _, rfl, .inl ha, _, _, rfl, rfl, _, rfl, ?_⟩
  rw [List.length_map]
  refine ite2 (fun q => ?_) (fun q => ?_)
  · have hk2 : k < ns.length := by have := of_decide_eq_true q; omega
    refine ⟨_, rfl, _, rfl, a, _, _, _, rfl, rfl, ha, L2.atI_nat (j := k) (v := .int ns[k]) (by rw [List.getElem?_map, List.getElem?_eq_getElem hk2]; rfl), ?_⟩
    exact box_tail hk kk
  · exact box_tail hk kk
/-! ### _law_take -/
def sp_L_take (K : PySem.W.Frag) : Sp := fun vs H Q _ => ∃ (b : Addr) (c size : Int), vs = [.ref b, .int size] ∧ BoxAt H b c ∧ c ≤ 1000000000 ∧ 0 < size ∧ size ≤ 10000000 ∧ ∀ H' r, But b H H' → BoxAt H' b (c + 1) → 0 ≤ r → r < size → Q (.int r) H'
theorem sc_L_take : FnScope ["_law_box_here", "_law_size", "_law_found", "_law_step_here", "_law_once", "_law_twice"] ["_law_box_here", "_law_size"] (defScope s_L_take) := ⟨rfl, rfl, rfl, by decide +kernel, rfl, by decide +kernel, by decide +kernel⟩
theorem ok_L_take (T : Tx K mg) : FnOk P w K mg base CX0 1 (He.ga K "_law_take") T.fd_L_take ["_law_box_here", "_law_size"] (sp_L_take K) := by
  refine T.F_L_take.ok sc_L_take (fun vs H Q E h => ?_) (fun cdv A outer s H vs Q E hr h => ?_)
  · obtain ⟨b, c, size, rfl, _⟩ := h
    rfl
  obtain ⟨b, c, size, rfl, ⟨i, j, k, hb, hi, hj, hj2, hk, hkc⟩, hc, h0, h1, kk⟩ := h
  refine ⟨_, PSs.nox (pss_cons (ps_if (pt_cmpR op_gt (pe_ix ix_list (pv 0) pe_int (fun _ _ => rfl)) pe_int (nomark _)) (pss_cons (ps_asg (pe_callB call_divmod (by rfl) T.n_divmod (by decide +kernel) (pa_cons (pe_ix ix_list (pv 0) pe_int (fun _ _ => rfl)) (pa_cons (pv 1) pa_nil))) (pg_tup rfl (pgs_cons (pg_sub (pv 0) pe_int set_list) (pgs_cons (pg_name (i := 2) sc_L_take.nd rfl (Or.inl rfl)) pgs_nil))))
      (pss_one (ps_ret (pv 2)))) pss_nil)
      (pss_cons (ps_if (pt_cmpR op_gt (pv 1) (pe_op op_pow pe_int pe_int) (nomark _)) (pss_one ps_never) pss_nil)
      (pss_cons (ps_asg (pe_op op_add (pe_ix ix_list (pv 0) pe_int (fun _ _ => rfl)) pe_int) (pg_sub (pv 0) pe_int set_list))
      (pss_cons (ps_set (i := 3) sc_L_take.nd rfl (Or.inl rfl) (pe_op op_add pe_int (pe_op op_mul (pe_ix ix_list (pv 0) pe_int (fun _ _ => rfl)) (pe_ix ix_list (pv 0) pe_int (fun _ _ => rfl)))))
      (pss_cons (ps_set (i := 4) sc_L_take.nd rfl (Or.inl rfl) (pe_op op_mod (pe_op op_mul (pe_op op_add (pe_ix ix_list (pv 0) pe_int (fun _ _ => rfl)) (pe_op op_mul pe_int (pe_ix ix_list (pv 0) pe_int (fun _ _ => rfl)))) (pv 3)) pe_int))
      (pss_cons (ps_set (i := 5) sc_L_take.nd rfl (Or.inl rfl) (pe_op op_mod (pe_op op_add (pe_op op_mul (pv 4) (pe_op op_add (pe_op op_mod (pv 4) pe_int) pe_int)) (pe_ix ix_list (pv 0) pe_int (fun _ _ => rfl))) pe_int))
      (pss_one (ps_ret (pe_op op_mod (pe_op op_fdiv (pe_op op_mod (pe_op op_mul (pv 5) (pe_op op_add (pe_op op_mod (pv 5) pe_int) pe_int)) pe_int) pe_int) (pv 1)))))))))), ?_⟩
  refine ⟨_, rfl, b, _, 0, _, rfl, rfl, SqL.of hb, rfl, _, _, rfl, rfl, _, rfl, ?_⟩
  refine ite2 (fun q => ?_) (fun q => ?_)
  · refine ⟨_, rfl, b, _, 0, _, rfl, rfl, SqL.of hb, rfl, _, rfl, i, size, rfl, ⟨h0, by omega⟩, fun p hp => ?_⟩
    have hb2 : (upd H p (.tup [.int (i / size), .int (i % size)])) b = some (.lst [.int i, .int j, .int k]) := by rw [upd_ne (ne_of_none hb hp)]; exact hb
    refine ⟨p, _, rfl, .inl (.inl upd_same), rfl, _, _, rfl, _, rfl, b, _, 0, 0, rfl, rfl, hb2, rfl, _, _, rfl, rfl, _, rfl, ?_⟩
    exact kk _ _ (((But.refl b H).new hp).upd) ⟨i / size, j, k, upd_same, Int.ediv_nonneg hi (by omega), hj, hj2, hk, by omega⟩ (Int.emod_nonneg _ (by omega)) (Int.emod_lt_of_pos _ h0)
  · refine ⟨_, rfl, 10, 7, rfl, rfl, ⟨by omega, by omega, by decide⟩, _, _, rfl, rfl, _, rfl, ?_⟩
    rw [decide_eq_false (show ¬ (10 : Int) ^ (7 : Int).toNat < size by rw [show (10 : Int) ^ (7 : Int).toNat = 10000000 from rfl]; omega)]
    refine iteF ?_
    refine ⟨_, rfl, b, _, 2, _, rfl, rfl, SqL.of hb, rfl, _, _, rfl, rfl, _, rfl, b, _, 2, 2, rfl, rfl, hb, rfl, ?_⟩
    have hb2 : (upd H b (.lst (([V.int i, .int j, .int k]).set 2 (.int (k + 1))))) b = some (.lst [.int i, .int j, .int (k + 1)]) := upd_same
    have but2 : But b H (upd H b (.lst (([V.int i, .int j, .int k]).set 2 (.int (k + 1))))) := (But.refl b H).upd
    generalize (upd H b (.lst (([V.int i, .int j, .int k]).set 2 (.int (k + 1))))) = H2 at hb2 but2
    have sq := SqL.of hb2 (K := K)
    refine ⟨_, rfl, b, _, 2, _, rfl, rfl, sq, rfl, _, rfl, b, _, 2, _, rfl, rfl, sq, rfl, _, _, rfl, rfl, .inl ⟨by omega, by omega⟩, _, _, rfl, rfl, ?_⟩
    refine ⟨_, rfl, b, _, 1, _, rfl, rfl, sq, rfl, _, rfl, b, _, 2, _, rfl, rfl, sq, rfl, _, _, rfl, rfl, .inl ⟨by omega, by omega⟩, _, _, rfl, rfl, _, rfl, _, _, rfl, rfl, .inl ⟨by omega, by omega⟩, _, _, rfl, rfl, by omega, ?_⟩
    generalize ((j + 39373 * (k + 1)) * (69621 + (k + 1) * (k + 1)) % 2147483587) = once
    refine ⟨_, rfl, _, rfl, _, _, rfl, rfl, by omega, _, _, rfl, rfl, _, _, rfl, rfl, .inr ⟨by omega, by omega⟩, _, rfl, b, _, 2, _, rfl, rfl, sq, rfl, _, _, rfl, rfl, _, _, rfl, rfl, by omega, ?_⟩
    generalize ((once * (once % 30011 + 5) + (k + 1)) % 2147483563) = twice
    refine ⟨_, rfl, _, rfl, _, _, rfl, rfl, by omega, _, _, rfl, rfl, _, _, rfl, rfl, .inr ⟨by omega, by omega⟩, _, _, rfl, rfl, by omega, _, _, rfl, rfl, ⟨by omega, by omega⟩, _, rfl, _, _, rfl, rfl, h0, ?_⟩
    exact kk _ _ but2 ⟨i, j, k + 1, hb2, hi, hj, hj2, by omega, by omega⟩ (Int.emod_nonneg _ (by omega)) (Int.emod_lt_of_pos _ h0)
/-! ### _law_folded -/
def sp_L_folded (K : PySem.W.Frag) : Sp := fun vs H Q _ => ∃ (a : Addr) (ns : List Int), vs = [.ref a, .int 2] ∧ SqL K H a (ns.map V.int) ∧ ns.length ≤ 63 ∧ ∀ H' p (ms : List Int), Same H H' → H' p = some (.lst (ms.map V.int)) → ms.length ≤ 2 → Q (.ref p) H'
theorem sc_L_folded : FnScope ["_law_script", "_law_size", "_law_cells", "_law_k", "_law_cell"] ["_law_script", "_law_size"] (defScope s_L_folded) := ⟨rfl, rfl, rfl, by decide +kernel, rfl, by decide +kernel, by decide +kernel⟩
theorem ok_L_folded (T : Tx K mg) : FnOk P w K mg base CX0 1 (He.ga K "_law_folded") T.fd_L_folded ["_law_script", "_law_size"] (sp_L_folded K) := by
  refine T.F_L_folded.ok sc_L_folded (fun vs H Q E h => ?_) (fun cdv A outer s H vs Q E hr h => ?_)
  · obtain ⟨a, ns, rfl, _⟩ := h
    rfl
  obtain ⟨a, ns, rfl, ha, hl, k⟩ := h
  refine ⟨_, PSs.nox (pss_cons (ps_set (i := 2) sc_L_folded.nd rfl (Or.inl rfl) (pe_callTy call_list_of (by rfl) T.n_list (by decide +kernel) (pa_cons (pe_slice sl_list (pv 0) po_none (po_some (pv 1))) pa_nil)))
      (pss_cons (ps_for PassesOwn.never rfl (pi_enum (by rfl) T.n_enumerate (pa_cons (pe_slice sl_list (pv 0) (po_some (pv 1)) (po_some pe_int)) pa_nil)) (pg_tup rfl (pgs_cons (pg_name (i := 3) sc_L_folded.nd rfl (Or.inl rfl)) (pgs_cons (pg_name (i := 4) sc_L_folded.nd rfl (Or.inl rfl)) pgs_nil))) (pss_one (ps_asg (pe_op op_add (pe_ix ix_list (pv 2) (pe_op op_mod (pv 3) (pv 1)) (fun _ _ => rfl)) (pe_op op_mul (pv 4) (pe_op op_add (pv 3) pe_int))) (pg_sub (pv 2) (pe_op op_mod (pv 3) (pv 1)) set_list))))
      (pss_one (ps_ret (pv 2))))), ?_⟩
  refine ⟨_, rfl, _, rfl, 2, rfl, a, _, rfl, ha, fun p hp => ⟨p, _, rfl, .inl (SqL.of upd_same), fun c hc => ?_⟩⟩
  rw [show (2 : Int) = ((2 : Nat) : Int) from rfl, cut_take, ← List.map_take] at hc ⊢
  have s2 := (same_new hp (o := .lst ((ns.take 2).map V.int))).new hc (o := .lst ((ns.take 2).map V.int))
  have fc : H c = none := (same_new hp (o := .lst ((ns.take 2).map V.int))).free hc
  have ec : (upd (upd H p (.lst ((ns.take 2).map V.int))) c (.lst ((ns.take 2).map V.int))) c = some (.lst ((ns.take 2).map V.int)) := upd_same
  generalize (upd (upd H p (.lst ((ns.take 2).map V.int))) c (.lst ((ns.take 2).map V.int))) = H2 at s2 ec
  refine ⟨_, rfl, _, rfl, 2, rfl, 63, rfl, a, _, rfl, s2.seq ha, fun d hd => ?_⟩
  have ecut : cutV (ns.map V.int) (some 2) (some 63) = ((ns.drop (HT.sIx ns.length 0 (some 2))).take (HT.sIx ns.length ns.length (some 63) - HT.sIx ns.length 0 (some 2))).map V.int := by
    unfold cutV
    rw [List.length_map, ← List.map_drop, ← List.map_take]
  have elen : ((ns.drop (HT.sIx ns.length 0 (some 2))).take (HT.sIx ns.length ns.length (some 63) - HT.sIx ns.length 0 (some 2))).length ≤ ns.length - 2 := by
    rw [List.length_take, List.length_drop, show HT.sIx ns.length 0 (some 2) = min 2 ns.length from HT.sIx_nat ns.length 0 2]
    omega
  rw [ecut]
  generalize ((ns.drop (HT.sIx ns.length 0 (some 2))).take (HT.sIx ns.length ns.length (some 63) - HT.sIx ns.length 0 (some 2))) = es at elen
  have s3 := s2.new hd (o := .lst (es.map V.int))
  have ncd : c ≠ d := ne_of_none ec hd
  have ec3 : (upd H2 d (.lst (es.map V.int))) c = some (.lst ((ns.take 2).map V.int)) := by rw [upd_ne ncd]; exact ec
  have ed3 : (upd H2 d (.lst (es.map V.int))) d = some (.lst (es.map V.int)) := upd_same
  generalize (upd H2 d (.lst (es.map V.int))) = H3 at s3 ec3 ed3
  refine ⟨d, _, rfl, SqL.of ed3, ?_⟩
  refine for_it (walk_enum (xs := es.map V.int)) (fun i σ H' => ∃ (ms : List Int) (x y : Option V), σ = [some (.ref a), some (.int 2), some (.ref c), x, y] ∧ Same H H' ∧ H' d = some (.lst (es.map V.int)) ∧ H' c = some (.lst (ms.map V.int)) ∧ ms.length = min 2 ns.length)
    ⟨ns.take 2, _, _, rfl, s3, ed3, ec3, List.length_take⟩ (fun i σ H' _ ⟨_, _, _, _, _, h, _⟩ => SqL.of h) ?_ ?_
  · rintro i x σ H4 H5 hi ⟨ms, x1, y1, rfl, s4, e4, f4, hm⟩ ⟨t, x2, y2, rfl, ht, rfl, ei, ey⟩
    rw [List.length_map] at hi
    have hm2 : ms.length = 2 := by omega
    obtain ⟨m0, m1, rfl⟩ : ∃ m0 m1, ms = [m0, m1] := by
      match ms, hm2 with
      | [m0, m1], _ => exact ⟨m0, m1, rfl⟩
    have ei2 := Option.some.inj ei
    subst ei2
    have ey1 : (es.map V.int)[i]? = some y2 := ey
    rw [List.getElem?_map, List.getElem?_eq_getElem hi] at ey1
    have ey2 := Option.some.inj ey1
    subst ey2
    have s5 := s4.new ht (o := .tup [.int (i : Nat), .int es[i]])
    have f5 : (upd H4 t (.tup [.int (i : Nat), .int es[i]])) c = some (.lst [.int m0, .int m1]) := by rw [upd_ne (ne_of_none f4 ht)]; exact f4
    have e5 : (upd H4 t (.tup [.int (i : Nat), .int es[i]])) d = some (.lst (es.map V.int)) := by rw [upd_ne (ne_of_none e4 ht)]; exact e4
    refine ⟨t, _, rfl, .inl (.inl upd_same), rfl, _, _, rfl, _, _, rfl, rfl, ?_⟩
    have hm3 : i % 2 < 2 := by omega
    have hmi : ((i : Nat) : Int) % 2 = ((i % 2 : Nat) : Int) := by omega
    have at1 : atI ([V.int m0, V.int m1]) (((i : Nat) : Int) % 2) = some (.int ([m0, m1][i % 2]'hm3)) := by
      rw [hmi]
      refine L2.atI_nat ?_
      show ([m0, m1].map V.int)[i % 2]? = _
      rw [List.getElem?_map, List.getElem?_eq_getElem (show i % 2 < [m0, m1].length from hm3)]
      rfl
    have ix1 : ixN [V.int m0, V.int m1].length (((i : Nat) : Int) % 2) = some (i % 2) := by
      rw [hmi]
      unfold ixN
      rw [if_pos (by omega), if_pos (by show ((i % 2 : Nat) : Int) < 2; omega)]
      exact congrArg some (Int.toNat_natCast _)
    refine ⟨_, rfl, _, rfl, _, rfl, _, _, rfl, rfl, by omega, c, _, _, _, rfl, rfl, SqL.of f5, at1, _, rfl, _, rfl, _, _, rfl, rfl, _, _, rfl, rfl, .inr ⟨by omega, by omega⟩, _, _, rfl, rfl, ?_⟩
    refine ⟨_, rfl, _, rfl, _, rfl, _, _, rfl, rfl, by omega, c, _, _, i % 2, rfl, rfl, f5, ix1, ?_⟩
    refine ⟨[m0, m1].set (i % 2) ([m0, m1][i % 2]'hm3 + es[i] * ((i : Nat) + 2)), _, _, rfl, s5.mut fc, ?_, ?_, ?_⟩
    · rw [upd_ne ncd.symm]
      exact e5
    · rw [upd_same, List.map_set]
      rfl
    · rw [List.length_set]
      exact hm
  · rintro σ H4 ⟨ms, x, y, rfl, s4, e4, f4, hm⟩
    exact ⟨_, rfl, k _ c ms s4 f4 (by omega)⟩
/-! ### _law_of -/
def sp_L_of (K : PySem.W.Frag) : Sp := fun vs H Q _ => ∃ (b : Addr) (c : Int) (lv : V) (ps : List PP), vs = [.ref b, lv] ∧ BoxAt H b c ∧ c ≤ 1000000000 ∧ Dp K H lv (dLP ps) ∧ ps ≠ [] ∧ ps.length ≤ 10000 ∧ ∀ H' v p, But b H H' → BoxAt H' b (c + 1) → p ∈ ps → Dp K H' v (dP p) → Q v H'
theorem sc_L_of : FnScope ["_law_box_here", "_law_some"] ["_law_box_here", "_law_some"] (defScope s_L_of) := ⟨rfl, rfl, rfl, by decide +kernel, rfl, by decide +kernel, by decide +kernel⟩
theorem ok_L_of (T : Tx K mg) : FnOk P w K mg base CX0 2 (He.ga K "_law_of") T.fd_L_of ["_law_box_here", "_law_some"] (sp_L_of K) := by
  refine T.F_L_of.ok sc_L_of (fun vs H Q E h => ?_) (fun cdv A outer s H vs Q E hr h => ?_)
  · obtain ⟨b, c, lv, ps, rfl, _⟩ := h
    rfl
  obtain ⟨b, c, lv, ps, rfl, hb, hc, hL, ne, hl, k⟩ := h
  refine ⟨_, PSs.nox (pss_one (ps_ret (pe_ix ix_list (pv 1) (pe_call (ok_L_take T) (hr.mono (by decide)) rfl T.g_L_take T.F_L_take.kp T.b_L_take .nil pass0 (pa_cons (pv 0) (pa_cons (pe_callB call_len_seq (by rfl) T.n_len (by decide +kernel) (pa_cons (pv 1) pa_nil)) pa_nil))) (fun _ _ => rfl)))), ?_⟩
  obtain ⟨l, ws, rfl, hl2, hws⟩ := dLP_at hL
  have wl : ws.length = ps.length := by rw [hws.length, List.length_map]
  have pos := List.length_pos_iff.mpr ne
  refine ⟨_, rfl, _, rfl, _, rfl, l, _, rfl, .inl hl2, b, c, _, rfl, hb, hc, by omega, by omega, fun H' r but hb' h0 h1 => ?_⟩
  have ir : intlessAll (ps.map dP) = true := intless_dPs ps
  have hl3 := hb.box.sql but hl2 hws ir
  have hws3 := DpAll.but hb.box but _ ir hws
  have hrn : r = ((r.toNat : Nat) : Int) := by omega
  have hi : r.toNat < ps.length := by omega
  obtain ⟨v, ev, hv⟩ := hws3.at (i := r.toNat) (d := dP ps[r.toNat]) (by rw [List.getElem?_map, List.getElem?_eq_getElem hi]; rfl)
  refine ⟨l, ws, r, v, rfl, rfl, hl3, ?_, k _ _ ps[r.toNat] but hb' (List.getElem_mem hi) hv⟩
  rw [hrn]
  exact L2.atI_nat ev
end
end WC
namespace WC
open PySem PySem.Spec PyProof.Rows L2
theorem _root_.L2.DpAll.eraseIdx {K : PySem.W.Frag} {H : Hp} : ∀ (n : Nat) {ds : List PyData} {vs : List V}, DpAll K H vs ds → DpAll K H (vs.eraseIdx n) (ds.eraseIdx n)
  | _, [], _, h => by cases h; exact .nil
  | 0, _ :: _, _, h => by
    cases h with
    | cons _ r => exact r
  | n + 1, _ :: _, _, h => by
    cases h with
    | cons h1 h2 => exact .cons h1 (L2.DpAll.eraseIdx n h2)
theorem map_eraseIdx {α β : Type} (f : α → β) : ∀ (l : List α) (n : Nat), (l.map f).eraseIdx n = (l.eraseIdx n).map f
  | [], _ => rfl
  | _ :: _, 0 => rfl
  | a :: l, n + 1 => by
    show f a :: (l.map f).eraseIdx n = f a :: (l.eraseIdx n).map f
    rw [map_eraseIdx f l n]
theorem perm_eraseIdx {α : Type} : ∀ {l : List α} {n : Nat} {a : α}, l[n]? = some a → l.Perm (a :: l.eraseIdx n)
  | [], _, _, h => by simp at h
  | b :: l, 0, a, h => by
    simp at h
    subst h
    exact List.Perm.refl _
  | b :: l, n + 1, a, h => by
    have h' : l[n]? = some a := by simpa using h
    exact ((perm_eraseIdx h').cons b).trans (List.Perm.swap a b _)
theorem llessAll_map {β : Type} {enc : β → PyData} (h : ∀ b, lless (enc b) = true) (bs : List β) : llessAll (bs.map enc) = true := llessAll_of fun d hd => by
  obtain ⟨b, _, rfl⟩ := List.mem_map.mp hd
  exact h b
theorem intlessAll_map {β : Type} {enc : β → PyData} (h : ∀ b, intless (enc b) = true) : ∀ bs : List β, intlessAll (bs.map enc) = true
  | [] => rfl
  | b :: bs => by
    show (intless (enc b) && intlessAll (bs.map enc)) = true
    rw [h b, intlessAll_map h bs]
    rfl
section
variable {P : Program} {w : World} {K : PySem.W.Frag} {mg : Str → Option Value} {base : Heap}
/-! ### _law_strewn -/
def sp_L_strewn (K : PySem.W.Frag) : Sp := fun vs H Q _ => ∃ (β : Type) (_ : DecidableEq β) (enc : β → PyData) (_ : Enc enc) (b : Addr) (c : Int) (l : Addr) (xs : List V) (bs : List β), vs = [.ref b, .ref l] ∧ BoxAt H b c ∧ c ≤ 900000000 ∧ (SqL K H l xs ∨ SqT K H l xs) ∧
  DpAll K H xs (bs.map enc) ∧ bs.length ≤ 1000 ∧ (∀ x, (enc x).depth ≤ 4) ∧ (∀ x, lless (enc x) = true) ∧ (∀ x, intless (enc x) = true) ∧ ∀ H' v (bs' : List β), But b H H' → BoxAt H' b (c + 1000) → bs'.Perm bs → LL K H' v (bs'.map enc) → Q v H'
theorem sc_L_strewn : FnScope ["_law_box_here", "_law_some", "_law_left", "_law_found"] ["_law_box_here", "_law_some"] (defScope s_L_strewn) := ⟨rfl, rfl, rfl, by decide +kernel, rfl, by decide +kernel, by decide +kernel⟩
theorem ok_L_strewn (T : Tx K mg) : FnOk P w K mg base CX0 2 (He.ga K "_law_strewn") T.fd_L_strewn ["_law_box_here", "_law_some"] (sp_L_strewn K) := by
  refine T.F_L_strewn.ok sc_L_strewn (fun vs H Q E h => ?_) (fun cdv A outer s H vs Q E hr h => ?_)
  · obtain ⟨β, _, enc, _, b, c, l, xs, bs, rfl, _⟩ := h
    rfl
  obtain ⟨β, dec, enc, E0', b, c, l, xs, bs, rfl, hb, hc, hl, hxs, hlen, hdep, hll, hil, k⟩ := h
  have encB : Enc (fun xs : List β => PyData.list (xs.map enc)) := enc_list E0'.plain hdep E0'.eqv (by decide)
  refine ⟨_, PSs.nox (pss_cons (ps_par (i := 2) (j := 3) rfl sc_L_strewn.nd rfl rfl (by decide) rfl rfl (pa_cons (pe_callTy call_list_of (by rfl) T.n_list (by decide +kernel) (pa_cons (pv 1) pa_nil)) (pa_cons (pe_lst pa_nil) pa_nil)) rfl)
      (pss_cons (ps_while PassesOwn.never (pt_cmpR (op_neB encB hr) (pv 2) (pe_lst pa_nil) (nomark _)) (pss_one (ps_expr (pe_bm PySem.F.plainAttrs_list PySem.F.slot_list_append PySem.F.type_list_append mt_append (pv 3) (pa_cons (pe_bm PySem.F.plainAttrs_list PySem.F.slot_list_pop PySem.F.type_list_pop mt_popAt (pv 2) (pa_cons (pe_call (ok_L_take T) (hr.mono (by decide)) rfl T.g_L_take T.F_L_take.kp T.b_L_take .nil pass0 (pa_cons (pv 0) (pa_cons (pe_callB call_len_seq (by rfl) T.n_len (by decide +kernel) (pa_cons (pv 2) pa_nil)) pa_nil))) pa_nil)) pa_nil)))))
      (pss_one (ps_ret (pv 3))))), ?_⟩
  have xl : xs.length = bs.length := by rw [hxs.length, List.length_map]
  refine ⟨_, rfl, l, _, rfl, hl, fun L hL => ⟨by decide, fun F hF => ⟨_, _, rfl, ?_⟩⟩⟩
  have nFL : F ≠ L := fun z => by rw [z, upd_same] at hF; cases hF
  have s2 : Same H (upd (upd H L (.lst xs)) F (.lst [])) := (same_new hL).new hF
  have fF : H F = none := (same_new hL).free hF
  have nLb : L ≠ b := fun z => by obtain ⟨i, j, k, e, _⟩ := hb; rw [← z, hL] at e; cases e
  have nFb : F ≠ b := fun z => by obtain ⟨i, j, k, e, _⟩ := hb; rw [← z, fF] at e; cases e
  have eL : (upd (upd H L (.lst xs)) F (.lst [])) L = some (.lst xs) := by rw [upd_ne nFL.symm]; exact upd_same
  have eF : (upd (upd H L (.lst xs)) F (.lst [])) F = some (.lst []) := upd_same
  have hx2 := DpAll.same s2 _ hxs
  have hb2 := hb.same s2
  generalize (upd (upd H L (.lst xs)) F (.lst [])) = H2 at s2 eL eF hx2 hb2
  refine ⟨fun m σ H' => ∃ (left found : List β) (zl zf : List V), σ = [some (.ref b), some (.ref l), some (.ref L), some (.ref F)] ∧ m = left.length ∧ H' L = some (.lst zl) ∧ H' F = some (.lst zf) ∧ DpAll K H' zl (left.map enc) ∧ DpAll K H' zf (found.map enc) ∧
    (found ++ left).Perm bs ∧ BoxAt H' b (c + found.length) ∧ But b H H', ⟨bs.length, bs, [], xs, [], rfl, rfl, eL, eF, hx2, .nil, List.Perm.refl _, by simpa using hb2, s2.but b⟩, ?_⟩
  rintro m σ H3 ⟨left, found, zl, zf, rfl, rfl, hL3, hF3, hl3, hf3, perm, hb3, but3⟩
  have pl := perm.length_eq
  rw [List.length_append] at pl
  refine ⟨_, rfl, by decide, fun N hN => rd_neB (a := left) (b := []) (enc := fun xs : List β => PyData.list (xs.map enc)) (Dp.same (same_new hN) _ (.lst (SqL.of hL3) hl3)) (.lst (SqL.of upd_same) .nil) ⟨_, rfl, ?_⟩⟩
  have s4 := same_new hN (o := .lst [])
  have hL4 := s4 _ _ hL3
  have hF4 := s4 _ _ hF3
  have hl4 := DpAll.same s4 _ hl3
  have hf4 := DpAll.same s4 _ hf3
  have hb4 := hb3.same s4
  have but4 := but3.trans (s4.but b)
  generalize (upd H3 N (.lst [])) = H4 at s4 hL4 hF4 hl4 hf4 hb4 but4
  have zll : zl.length = left.length := by rw [hl4.length, List.length_map]
  have zfl : zf.length = found.length := by rw [hf4.length, List.length_map]
  refine ite2 (fun q => ?_) (fun q => ?_)
  · have hne : left ≠ [] := fun z => by subst z; simp at q
    have pos := List.length_pos_iff.mpr hne
    refine ⟨fun σ H' => ∃ (left2 found2 : List β) (zl zf : List V), σ = [some (.ref b), some (.ref l), some (.ref L), some (.ref F)] ∧ left2.length < left.length ∧ H' L = some (.lst zl) ∧ H' F = some (.lst zf) ∧ DpAll K H' zl (left2.map enc) ∧ DpAll K H' zf (found2.map enc) ∧
      (found2 ++ left2).Perm bs ∧ BoxAt H' b (c + found2.length) ∧ But b H H', fun σ' H' ⟨l2, f2, z1, z2, a1, a2, a3⟩ => ⟨_, a2, l2, f2, z1, z2, a1, rfl, a3⟩, ?_⟩
    refine ⟨_, rfl, .inl ⟨rfl, _, SqL.of hF4⟩, _, rfl, .inl ⟨rfl, _, SqL.of hL4⟩, _, rfl, _, rfl, L, _, rfl, .inl (SqL.of hL4), b, _, _, rfl, hb4, by omega, by omega, by omega, fun H5 r but5 hb5 h0 h1 => ?_⟩
    have nLb5 := but5 _ _ nLb hL4
    have nFb5 := but5 _ _ nFb hF4
    have hl5 := DpAll.but hb4.box but5 _ (intlessAll_map hil left) hl4
    have hf5 := DpAll.but hb4.box but5 _ (intlessAll_map hil found) hf4
    have hi : r.toNat < left.length := by omega
    obtain ⟨y, ey, hy⟩ := hl5.at (i := r.toNat) (d := enc left[r.toNat]) (by rw [List.getElem?_map, List.getElem?_eq_getElem hi]; rfl)
    have aty : atI zl r = some y := by
      rw [show r = ((r.toNat : Nat) : Int) by omega]
      exact L2.atI_nat ey
    obtain ⟨j, hj1, hj2, hj3, _⟩ := L2.atI_get aty
    have hjl : j < left.length := by omega
    obtain ⟨d, hd1, hd2⟩ := hl5.get hj2
    rw [List.getElem?_map, List.getElem?_eq_getElem hjl] at hd1
    cases hd1
    have ea : left[j]? = some left[j] := List.getElem?_eq_getElem hjl
    generalize left[j] = a at ea hd2
    have hF6 : (upd H5 L (.lst (zl.eraseIdx j))) F = some (.lst zf) := by rw [upd_ne nFL]; exact nFb5
    refine ⟨L, zl, r, j, y, rfl, rfl, nLb5, by omega, by omega, hj1, hj2, F, zf, y, rfl, rfl, hF6, sz100 (by omega), left.eraseIdx j, found ++ [a], zl.eraseIdx j, zf ++ [y], rfl, ?_, ?_, upd_same, ?_, ?_, ?_, ?_, ?_⟩
    · rw [List.length_eraseIdx]
      split <;> omega
    · rw [upd_ne nFL.symm]
      exact upd_same
    · show DpAll K _ (zl.eraseIdx j) ((left.eraseIdx j).map enc)
      rw [← map_eraseIdx]
      exact DpAll.mutL hF6 _ (by rw [map_eraseIdx]; exact llessAll_map hll _) (DpAll.mutL nLb5 _ (by rw [map_eraseIdx]; exact llessAll_map hll _) (hl5.eraseIdx j))
    · rw [List.map_append]
      refine (DpAll.mutL hF6 _ (llessAll_map hll _) (DpAll.mutL nLb5 _ (llessAll_map hll _) hf5)).append (.cons ?_ .nil)
      exact Dp.mutL hF6 _ (hll a) (Dp.mutL nLb5 _ (hll a) hd2)
    · refine List.Perm.trans ?_ perm
      rw [List.append_assoc]
      exact ((perm_eraseIdx ea).symm).append_left found
    · obtain ⟨i1, j1, k1, e1, e2⟩ := hb5
      refine ⟨i1, j1, k1, ?_, ?_⟩
      · rw [upd_ne nFb.symm, upd_ne nLb.symm]
        exact e1
      · rw [List.length_append]
        simpa [Int.add_assoc] using e2
    · intro x o hx e
      have nx : x ≠ L := fun z => by rw [z, hL] at e; cases e
      have ny : x ≠ F := fun z => by rw [z, fF] at e; cases e
      rw [upd_ne ny, upd_ne nx]
      exact but5 _ _ hx (but4 _ _ hx e)
  · have hnil : left = [] := by
      by_cases z : left = []
      · exact z
      · simp [z] at q
    subst hnil
    rw [List.append_nil] at perm
    exact ⟨_, rfl, k _ _ found but4 (hb4.mono (by simp at pl; omega)) perm ⟨F, zf, rfl, hF4, hf4⟩⟩
end
end WC
namespace WC
open PySem PySem.Spec PyProof.Rows L2
theorem BoxAt.but_mut {H : Hp} {b : Addr} {c : Int} {x : Addr} {o : HO} (h : BoxAt H b c) (ne : x ≠ b) : BoxAt (upd H x o) b c := by
  obtain ⟨i, j, k, e, r⟩ := h
  exact ⟨i, j, k, by rw [upd_ne ne.symm]; exact e, r⟩
theorem BoxAt.ne {H : Hp} {b x : Addr} {c : Int} (h : BoxAt H b c) (hx : H x = none) : x ≠ b := fun z => by
  obtain ⟨i, j, k, e, _⟩ := h
  rw [← z, hx] at e
  cases e
/-- a word of an order -/
def WordIn (row : List Str) (p : PP) : Prop := ∃ i j : Nat, i < j ∧ row[i]? = some p.1 ∧ row[j]? = some p.2
section
variable {P : Program} {w : World} {K : PySem.W.Frag} {mg : Str → Option Value} {base : Heap}
/-! ### _law_said -/
def sp_L_said (K : PySem.W.Frag) : Sp := fun vs H Q _ => ∃ (b : Addr) (c : Int) (rv : V) (row : List Str) (many : Nat), vs = [.ref b, rv, .int many] ∧ BoxAt H b c ∧ c ≤ 900000000 ∧ Dp K H rv (dT row) ∧ row.length ≤ 100 ∧ many ≤ 1 ∧
  ∀ H' v (ws : List PP), But b H H' → BoxAt H' b (c + 10) → LL K H' v (ws.map dP) → ws.length ≤ 1 → (∀ p ∈ ws, WordIn row p) → Q v H'
theorem sc_L_said : FnScope ["_law_box_here", "_law_row", "_law_many", "_law_found", "_law_turn", "_law_at"] ["_law_box_here", "_law_row", "_law_many"] (defScope s_L_said) := ⟨rfl, rfl, rfl, by decide +kernel, rfl, by decide +kernel, by decide +kernel⟩
theorem ok_L_said (T : Tx K mg) : FnOk P w K mg base CX0 2 (He.ga K "_law_said") T.fd_L_said ["_law_box_here", "_law_row", "_law_many"] (sp_L_said K) := by
  refine T.F_L_said.ok sc_L_said (fun vs H Q E h => ?_) (fun cdv A outer s H vs Q E hr h => ?_)
  · obtain ⟨b, c, rv, row, many, rfl, _⟩ := h
    rfl
  obtain ⟨b, c, rv, row, many, rfl, hb, hc, hR, hlen, hm, k⟩ := h
  refine ⟨_, PSs.nox (pss_cons (ps_set (i := 3) sc_L_said.nd rfl (Or.inl rfl) (pe_lst pa_nil))
      (pss_cons (ps_for PassesOwn.never rfl (pi_range1 (by rfl) T.n_range (pa_cons (pe_op op_mul (pv 2) (pe_callTy call_int1 (by rfl) T.n_int (by decide +kernel) (pa_cons (pe_cmpR op_gt (pe_callB call_len_seq (by rfl) T.n_len (by decide +kernel) (pa_cons (pv 1) pa_nil)) pe_int (nomark _)) pa_nil))) pa_nil)) (pg_name (i := 4) sc_L_said.nd rfl (Or.inl rfl)) (pss_cons (ps_set (i := 5) sc_L_said.nd rfl (Or.inl rfl) (pe_call (ok_L_take T) (hr.mono (by decide)) rfl T.g_L_take T.F_L_take.kp T.b_L_take .nil pass0 (pa_cons (pv 0) (pa_cons (pe_op op_sub (pe_callB call_len_seq (by rfl) T.n_len (by decide +kernel) (pa_cons (pv 1) pa_nil)) pe_int) pa_nil))))
      (pss_one (ps_expr (pe_bm PySem.F.plainAttrs_list PySem.F.slot_list_append PySem.F.type_list_append mt_append (pv 3) (pa_cons (pe_tup (pa_cons (pe_ix ix_tup (pv 1) (pv 5) (fun _ _ => rfl)) (pa_cons (pe_ix ix_tup (pv 1) (pe_op op_add (pe_op op_add (pv 5) pe_int) (pe_call (ok_L_take T) (hr.mono (by decide)) rfl T.g_L_take T.F_L_take.kp T.b_L_take .nil pass0 (pa_cons (pv 0) (pa_cons (pe_op op_sub (pe_op op_sub (pe_callB call_len_seq (by rfl) T.n_len (by decide +kernel) (pa_cons (pv 1) pa_nil)) pe_int) (pv 5)) pa_nil)))) (fun _ _ => rfl)) pa_nil))) pa_nil))))))
      (pss_one (ps_ret (pv 3))))), ?_⟩
  obtain ⟨r, rfl, hr0⟩ := dT_at hR
  refine ⟨by decide, fun F hF => ?_⟩
  have nFb := hb.ne hF
  have s1 := same_new hF (o := .lst [])
  have hb1 := hb.same s1
  have hr1 := s1.sqt hr0
  have eF : (upd H F (.lst [])) F = some (.lst []) := upd_same
  have but1 := s1.but b
  generalize (upd H F (.lst [])) = H1 at s1 hb1 hr1 eF but1
  refine ⟨_, rfl, _, rfl, r, _, rfl, .inr hr1, _, _, rfl, rfl, .inr ⟨_, rfl, (many : Nat), _, rfl, rfl, .inr ?_, ?_⟩⟩
  · split <;> omega
  rw [List.length_map]
  by_cases hl : row.length ≤ 1
  · rw [decide_eq_false (show ¬ (1 : Int) < (row.length : Int) by omega), if_neg Bool.false_ne_true]
    refine ⟨(many : Int) * 0, rfl, by omega, by omega, ?_⟩
    rw [show ((many : Int) * 0).toNat = 0 by omega]
    refine for_it walk_range (fun i σ H' => σ[3]? = some (some (.ref F)) ∧ H' = H1) ⟨rfl, rfl⟩ (fun _ _ _ _ _ => trivial) (fun i x σ H' H'' hi => absurd hi (by simp)) ?_
    rintro σ H' ⟨e3, rfl⟩
    exact ⟨_, e3, k _ _ [] but1 (hb1.mono (by omega)) ⟨F, [], rfl, eF, .nil⟩ (by simp) (fun p hp => by cases hp)⟩
  rw [decide_eq_true (show (1 : Int) < (row.length : Int) by omega), if_pos rfl]
  refine ⟨(many : Int) * 1, rfl, by omega, by omega, ?_⟩
  rw [show ((many : Int) * 1).toNat = many by omega]
  refine for_it walk_range (fun i σ H' => ∃ (x y : Option V) (zs : List V) (ws : List PP), σ = [some (.ref b), some (.ref r), some (.int many), some (.ref F), x, y] ∧ But b H H' ∧ BoxAt H' b (c + i + i) ∧ H' F = some (.lst zs) ∧ DpAll K H' zs (ws.map dP) ∧ ws.length = i ∧ ∀ p ∈ ws, WordIn row p)
    ⟨_, _, [], [], rfl, but1, by simpa using hb1, eF, .nil, rfl, fun p hp => by cases hp⟩ (fun _ _ _ _ _ => trivial) ?_ ?_
  · rintro i x σ _ H2 hi ⟨x1, y1, zs, ws, rfl, but2, hb2, eF2, hz2, hw2, hin⟩ ⟨rfl, ex⟩
    have hr2 := hb.box.sqt but2 hr0
    have inp := intless_dPs ws
    -- at
    refine ⟨_, rfl, _, rfl, r, _, rfl, .inr hr2, _, _, rfl, rfl, b, _, _, rfl, hb2, by omega, by rw [List.length_map]; omega, by rw [List.length_map]; omega, fun H3 at0 but3 hb3 h0 h1 => ?_⟩
    rw [List.length_map] at h1
    have eF3 := but3 _ _ nFb eF2
    have hz3 := DpAll.but hb2.box but3 _ inp hz2
    have but23 := but2.trans but3
    have hr3 := hb.box.sqt but23 hr0
    have eat : at0 = ((at0.toNat : Nat) : Int) := by omega
    have at1 := atI_str (row := row) (i := at0.toNat) (by omega)
    rw [← eat] at at1
    refine ⟨_, rfl, .inl ⟨rfl, _, SqL.of eF3⟩, _, rfl, _, rfl, r, _, _, _, rfl, rfl, hr3, at1, _, rfl, _, rfl, _, _, rfl, rfl, _, rfl, _, rfl, r, _, rfl, .inr hr3, _, _, rfl, rfl, _, rfl, _, _, rfl, rfl, b, _, _, rfl, hb3, by omega, by rw [List.length_map]; omega, by rw [List.length_map]; omega,
      fun H4 d but4 hb4 d0 d1 => ?_⟩
    rw [List.length_map] at d1
    have eF4 := but4 _ _ nFb eF3
    have hz4 := DpAll.but hb3.box but4 _ inp hz3
    have but24 := but23.trans but4
    have hr4 := hb.box.sqt but24 hr0
    have eto : at0 + 1 + d = (((at0 + 1 + d).toNat : Nat) : Int) := by omega
    have at2 := atI_str (row := row) (i := (at0 + 1 + d).toNat) (by omega)
    rw [← eto] at at2
    refine ⟨_, _, rfl, rfl, r, _, _, _, rfl, rfl, hr4, at2, sz2, fun t ht => ?_⟩
    obtain ⟨h5, h6⟩ := app_pair (x := row.getD at0.toNat Str.empty) (y := row.getD (at0 + 1 + d).toNat Str.empty) eF4 hz4 ht
    have fF : H F = none := hF
    refine ⟨F, zs, _, rfl, rfl, h5, ?_, _, _, _, ws ++ [(row.getD at0.toNat Str.empty, row.getD (at0 + 1 + d).toNat Str.empty)], rfl, ?_, ?_, upd_same, h6, ?_, ?_⟩
    · have l1 := hz4.length
      rw [List.length_map] at l1
      unfold sizeLine
      omega
    · exact (but24.new ht).mut fF
    · have b6 : BoxAt (upd H4 t (.tup [.str (row.getD at0.toNat Str.empty), .str (row.getD (at0 + 1 + d).toNat Str.empty)])) b (c + i + i + 1 + 1) := hb4.same (same_new ht)
      refine (b6.but_mut nFb).mono ?_
      omega
    · rw [List.length_append, hw2]
      rfl
    · intro p hp
      rcases List.mem_append.mp hp with h | h
      · exact hin p h
      · have e : p = (row.getD at0.toNat Str.empty, row.getD (at0 + 1 + d).toNat Str.empty) := by simpa using h
        subst e
        exact ⟨at0.toNat, (at0 + 1 + d).toNat, by omega, getD_at (by omega), getD_at (by omega)⟩
  · rintro σ H2 ⟨x1, y1, zs, ws, rfl, but2, hb2, eF2, hz2, hw2, hin⟩
    exact ⟨_, rfl, k _ _ ws but2 (hb2.mono (by omega)) ⟨F, zs, rfl, eF2, hz2⟩ (by omega) hin⟩
end
end WC
namespace WC
open PySem PySem.Spec PyProof.Rows L2
/-! names -/
def NameOk (x : Str) : Prop := x.cps.size ≤ 8 ∧ ∀ c ∈ x.cps.toList, c < 1000
def alpha : Str := "abcdefghijklmnopqrstuvwxyz"
def signOf (i : Nat) : Str := ⟨#[alpha.cps.toList.getD i 0]⟩
theorem alpha_len : alpha.cps.toList.length = 26 := by decide +kernel
theorem alpha_nodup : alpha.cps.toList.Nodup := by decide +kernel
theorem alpha_small : ∀ c ∈ alpha.cps.toList, c < 1000 := by decide +kernel
theorem joinL_flat : ∀ ps : List (List Nat), TL.joinL [] ps = ps.flatten
  | [] => rfl
  | [p] => by simp [TL.joinL]
  | p :: q :: r => by
    show p ++ ([] ++ TL.joinL [] (q :: r)) = _
    rw [joinL_flat (q :: r)]
    simp
def Sign (y : Str) : Prop := ∃ c, c < 1000 ∧ y = ⟨#[c]⟩
theorem sign_of {i : Nat} (h : i < 26) : Sign (signOf i) := by
  refine ⟨_, ?_, rfl⟩
  have h2 : i < alpha.cps.toList.length := by rw [alpha_len]; exact h
  rw [List.getD_eq_getElem?_getD, List.getElem?_eq_getElem h2]
  exact alpha_small _ (List.getElem_mem h2)
def abS : Str := "ab"
def idxAt (f st lg k : Nat) : Nat := (f + st * (if lg = 1 then k / 2 else k)) % 26
def nameAt (stem : Str) (f st lg k : Nat) : Str := (stem ++ signOf (idxAt f st lg k)) ++ (if lg = 1 ∧ k % 2 = 1 then abS else Str.empty)
theorem coprime26 : ∀ st ∈ [1, 3, 25], ∀ f < 26, ∀ k < 26, ∀ j < 26, (f + st * k) % 26 = (f + st * j) % 26 → k = j := by decide +kernel
theorem tl_append (a b : Str) : (a ++ b).cps.toList = a.cps.toList ++ b.cps.toList := by
  show (a.cps ++ b.cps).toList = _
  simp
theorem tl_name (stem : Str) (f st lg k : Nat) : (nameAt stem f st lg k).cps.toList = stem.cps.toList ++ (alpha.cps.toList.getD (idxAt f st lg k) 0 :: (if lg = 1 ∧ k % 2 = 1 then [97, 98] else [])) := by
  unfold nameAt
  rw [tl_append, tl_append, List.append_assoc]
  congr 1
  show [alpha.cps.toList.getD (idxAt f st lg k) 0] ++ _ = _
  by_cases h : lg = 1 ∧ k % 2 = 1
  · rw [if_pos h, if_pos h, show abS.cps.toList = [97, 98] from by decide +kernel]
    rfl
  · rw [if_neg h, if_neg h]
    rfl
theorem name_inj {stem : Str} {f st lg k j : Nat} (hs : st = 1 ∨ st = 3 ∨ st = 25) (hf : f < 26) (hk : k < 26) (hj : j < 26) (h : nameAt stem f st lg k = nameAt stem f st lg j) : k = j := by
  have h1 := congrArg (fun x : Str => x.cps.toList) h
  simp only [tl_name] at h1
  have h2 := List.append_cancel_left h1
  injection h2 with h3 h4
  have st3 : st ∈ [1, 3, 25] := by simpa using hs
  have i1 : idxAt f st lg k < alpha.cps.toList.length := by rw [alpha_len]; exact Nat.mod_lt _ (by omega)
  have i2 : idxAt f st lg j < alpha.cps.toList.length := by rw [alpha_len]; exact Nat.mod_lt _ (by omega)
  rw [List.getD_eq_getElem?_getD, List.getD_eq_getElem?_getD, List.getElem?_eq_getElem i1, List.getElem?_eq_getElem i2] at h3
  have e : alpha.cps.toList[idxAt f st lg k]? = alpha.cps.toList[idxAt f st lg j]? := by
    rw [List.getElem?_eq_getElem i1, List.getElem?_eq_getElem i2]
    exact congrArg some h3
  have e2 := (List.getElem?_inj i1 alpha_nodup).mp e
  unfold idxAt at e2
  by_cases hl : lg = 1
  · rw [if_pos hl, if_pos hl] at e2
    have e3 := coprime26 st st3 f hf (k / 2) (by omega) (j / 2) (by omega) e2
    have e4 : k % 2 = j % 2 := by
      by_cases hk2 : k % 2 = 1
      · rw [if_pos ⟨hl, hk2⟩] at h4
        by_cases hj2 : j % 2 = 1
        · omega
        · rw [if_neg (fun z => hj2 z.2)] at h4
          cases h4
      · rw [if_neg (fun z => hk2 z.2)] at h4
        by_cases hj2 : j % 2 = 1
        · rw [if_pos ⟨hl, hj2⟩] at h4
          cases h4
        · omega
    omega
  · rw [if_neg hl, if_neg hl] at e2
    exact coprime26 st st3 f hf k hk j hj e2
theorem name_ok {stem : Str} {f st lg k : Nat} (h1 : stem.cps.toList.length ≤ 5) (h2 : ∀ c ∈ stem.cps.toList, c < 1000) : NameOk (nameAt stem f st lg k) := by
  have i1 : idxAt f st lg k < alpha.cps.toList.length := by rw [alpha_len]; exact Nat.mod_lt _ (by omega)
  refine ⟨?_, ?_⟩
  · rw [← Array.length_toList, tl_name, List.length_append, List.length_cons]
    have e : (if lg = 1 ∧ k % 2 = 1 then [97, 98] else ([] : List Nat)).length ≤ 2 := by split <;> decide
    omega
  · rw [tl_name]
    intro c hc
    rcases List.mem_append.mp hc with z | z
    · exact h2 c z
    · rcases List.mem_cons.mp z with z | z
      · rw [z, List.getD_eq_getElem?_getD, List.getElem?_eq_getElem i1]
        exact alpha_small _ (List.getElem_mem i1)
      · split at z
        · simp at z
          omega
        · cases z
theorem nodup_map_range {f : Nat → Str} {n : Nat} (h : ∀ i j, i < n → j < n → f i = f j → i = j) : ((List.range n).map f).Nodup := by
  refine List.pairwise_map.mpr ?_
  refine (List.nodup_range (n := n)).imp_of_mem fun {a b} ha hb hab z => hab (h a b (List.mem_range.mp ha) (List.mem_range.mp hb) z)
theorem stem_ok (ys : List Str) (h : ∀ y ∈ ys, Sign y) : (Txt.join (Str.ofString "") ys).cps.toList.length = ys.length ∧ ∀ c ∈ (Txt.join (Str.ofString "") ys).cps.toList, c < 1000 := by
  have e : (Txt.join (Str.ofString "") ys).cps.toList = (ys.map TL.tl).flatten := by
    have h1 := TL.join_eq (Str.ofString "") ys
    rw [h1]
    have h2 := TL.tl_join (Str.ofString "") ys
    rw [show TL.tl (Str.ofString "") = [] from by decide +kernel, joinL_flat] at h2
    exact h2
  rw [e]
  clear e
  induction ys with
  | nil => exact ⟨rfl, fun c hc => by cases hc⟩
  | cons y ys ih =>
    obtain ⟨h1, h2⟩ := ih fun z hz => h z (List.mem_cons_of_mem _ hz)
    obtain ⟨c, hc, e⟩ := h y List.mem_cons_self
    rw [List.map_cons, List.flatten_cons, e]
    refine ⟨?_, fun d hd => ?_⟩
    · rw [List.length_append, h1]
      show 1 + ys.length = ys.length + 1
      omega
    · rcases List.mem_append.mp hd with z | z
      · have e2 : d = c := by simpa using z
        rw [e2]
        exact hc
      · exact h2 d z
theorem sign_sum : ∀ ys : List Str, (∀ y ∈ ys, Sign y) → (ys.map (·.length)).sum = ys.length
  | [], _ => rfl
  | y :: ys, h => by
    obtain ⟨c, hc, e⟩ := h y List.mem_cons_self
    rw [List.map_cons, List.sum_cons, sign_sum ys fun z hz => h z (List.mem_cons_of_mem _ hz), e, List.length_cons]
    show 1 + ys.length = _
    omega
theorem at_alpha {q : Int} (h0 : 0 ≤ q) (h1 : q < 26) : atI alpha.cps.toList q = some (alpha.cps.toList.getD q.toNat 0) := by
  obtain ⟨n, rfl⟩ : ∃ n : Nat, q = (n : Int) := ⟨q.toNat, by omega⟩
  have hl : n < alpha.cps.toList.length := by rw [alpha_len]; omega
  rw [Int.toNat_natCast, List.getD_eq_getElem?_getD, List.getElem?_eq_getElem hl]
  exact L2.atI_nat (List.getElem?_eq_getElem hl)
section
variable {P : Program} {w : World} {K : PySem.W.Frag} {mg : Str → Option Value} {base : Heap}
theorem dec_int' (a b : Nat) : decide (V.int (a : Int) = V.int (b : Int)) = decide (a = b) := decide_eq_decide.mpr ⟨fun h => by injection h with h; omega, fun h => by rw [h]⟩
theorem rd_half {H : Hp} {σ : L2.St} {R : VK} {i j lgn k : Nat} (h1 : σ[i]? = some (some (.int (lgn : Nat)))) (h2 : σ[j]? = some (some (.int (k : Nat)))) (kk : R (.int ((if lgn = 1 then k / 2 else k : Nat) : Int)) H) :
    tIf (tTest (tOp rEq (tVar i) (tC (.int 1)))) (tOp (rI CDiv fun i j => .int (i / j)) (tVar j) (tC (.int 2))) (tVar j) σ H R := by
  refine ⟨_, h1, rfl, _, rfl, ?_⟩
  rw [show (V.int 1) = V.int ((1 : Nat) : Int) from rfl, dec_int']
  by_cases q : lgn = 1
  · rw [if_pos q] at kk
    rw [decide_eq_true q]
    refine iteT ⟨_, h2, _, _, rfl, rfl, ⟨by omega, by omega⟩, ?_⟩
    show R (.int (((k : Nat) : Int) / 2)) H
    rw [show ((k : Nat) : Int) / 2 = ((k / 2 : Nat) : Int) by omega]
    exact kk
  · rw [if_neg q] at kk
    rw [decide_eq_false q]
    exact iteF ⟨_, h2, kk⟩
theorem rd_odd {H : Hp} {σ : L2.St} {R : VK} {i j lgn k : Nat} (h1 : σ[i]? = some (some (.int (lgn : Nat)))) (h2 : σ[j]? = some (some (.int (k : Nat)))) (kk : R (.bl (decide (lgn = 1 ∧ k % 2 = 1))) H) :
    tAndV (tOp rEq (tVar i) (tC (.int 1))) (tOp rEq (tOp (rI (fun _ j => 0 < j) fun i j => .int (i % j)) (tVar j) (tC (.int 2))) (tC (.int 1))) σ H R := by
  refine ⟨_, h1, rfl, _, rfl, ?_⟩
  rw [show (V.int 1) = V.int ((1 : Nat) : Int) from rfl, dec_int']
  by_cases q : lgn = 1
  · rw [decide_eq_true q]
    refine iteT ⟨_, h2, _, _, rfl, rfl, by omega, rfl, ?_⟩
    show R (.bl (decide (V.int (((k : Nat) : Int) % 2) = V.int ((1 : Nat) : Int)))) H
    rw [show ((k : Nat) : Int) % 2 = ((k % 2 : Nat) : Int) by omega, dec_int']
    rw [decide_eq_decide.mpr (show k % 2 = 1 ↔ lgn = 1 ∧ k % 2 = 1 from ⟨fun h => ⟨q, h⟩, fun h => h.2⟩)]
    exact kk
  · rw [decide_eq_false q]
    rw [decide_eq_false (fun z => q z.1)] at kk
    exact iteF kk
/-! ### _law_names -/
def sp_L_names (K : PySem.W.Frag) : Sp := fun vs H Q _ => ∃ (b : Addr) (c : Int) (many : Nat), vs = [.ref b, .int many] ∧ BoxAt H b c ∧ c ≤ 900000000 ∧ many ≤ 26 ∧
  ∀ H' v (ns : List Str), But b H H' → BoxAt H' b (c + 20) → Dp K H' v (dL ns) → ns.length = many → ns.Nodup → (∀ n ∈ ns, NameOk n) → Q v H'
theorem sc_L_names : FnScope ["_law_box_here", "_law_many", "_law_letters", "_law_first", "_law_found", "_law_stem", "_law_step_here", "_law_longer", "_law_k", "_law_sign", "_law_turn"] ["_law_box_here", "_law_many"] (defScope s_L_names) := ⟨rfl, rfl, rfl, by decide +kernel, rfl, by decide +kernel, by decide +kernel⟩
theorem ok_L_names (T : Tx K mg) : FnOk P w K mg base CX0 2 (He.ga K "_law_names") T.fd_L_names ["_law_box_here", "_law_many"] (sp_L_names K) := by
  refine T.F_L_names.ok sc_L_names (fun vs H Q E h => ?_) (fun cdv A outer s H vs Q E hr h => ?_)
  · obtain ⟨b, c, many, rfl, _⟩ := h
    rfl
  obtain ⟨b, c, many, rfl, hb, hc, hm, k⟩ := h
  refine ⟨_, PSs.nox (pss_cons (ps_asg (pe_tup (pa_cons pe_str (pa_cons (pe_call (ok_L_take T) (hr.mono (by decide)) rfl T.g_L_take T.F_L_take.kp T.b_L_take .nil pass0 (pa_cons (pv 0) (pa_cons pe_int pa_nil))) (pa_cons (pe_lst pa_nil) pa_nil)))) (pg_tup rfl (pgs_cons (pg_name (i := 2) sc_L_names.nd rfl (Or.inr rfl)) (pgs_cons (pg_name (i := 3) sc_L_names.nd rfl (Or.inl rfl)) (pgs_cons (pg_name (i := 4) sc_L_names.nd rfl (Or.inl rfl)) pgs_nil)))))
      (pss_cons (ps_set (i := 5) sc_L_names.nd rfl (Or.inl rfl) (pe_join pe_str (pe_lc (own := [("_law_turn", 10)]) (g := gName 10) rfl sc_L_names.nd (pi_range1 (by rfl) T.n_range (pa_cons (pe_call (ok_L_take T) (hr.mono (by decide)) rfl T.g_L_take T.F_L_take.kp T.b_L_take .nil pass0 (pa_cons (pv 0) (pa_cons pe_int pa_nil))) pa_nil)) (blkOk_by (own := [("_law_turn", 10)]) (N := ["_law_box_here", "_law_many", "_law_letters", "_law_first", "_law_found", "_law_stem", "_law_step_here", "_law_longer", "_law_k", "_law_sign", "_law_turn"]) (sc := defScope s_L_names) (by decide +kernel)) (fun _ _ _ _ _ => (pg_name (i := 10) sc_L_names.nd rfl (Or.inl rfl))) (fun _ _ _ _ _ => pts_nil) (fun _ _ _ _ _ => (pe_ix ix_str (pv 2) (pe_call (ok_L_take T) (hr.mono (by decide)) rfl T.g_L_take T.F_L_take.kp T.b_L_take .nil pass0 (pa_cons (pv 0) (pa_cons pe_int pa_nil))) (fun _ _ => rfl))))))
      (pss_cons (ps_par (i := 6) (j := 7) rfl sc_L_names.nd rfl rfl (by decide) rfl rfl (pa_cons (pe_ix ix_list (pe_lst (pa_cons pe_int (pa_cons pe_int (pa_cons pe_int pa_nil)))) (pe_call (ok_L_take T) (hr.mono (by decide)) rfl T.g_L_take T.F_L_take.kp T.b_L_take .nil pass0 (pa_cons (pv 0) (pa_cons pe_int pa_nil))) (fun _ _ => rfl)) (pa_cons (pe_call (ok_L_take T) (hr.mono (by decide)) rfl T.g_L_take T.F_L_take.kp T.b_L_take .nil pass0 (pa_cons (pv 0) (pa_cons pe_int pa_nil))) pa_nil)) rfl)
      (pss_cons (ps_for PassesOwn.never rfl (pi_range1 (by rfl) T.n_range (pa_cons (pv 1) pa_nil)) (pg_name (i := 8) sc_L_names.nd rfl (Or.inl rfl)) (pss_cons (ps_set (i := 9) sc_L_names.nd rfl (Or.inl rfl) (pe_ix ix_str (pv 2) (pe_op op_mod (pe_op op_add (pv 3) (pe_op op_mul (pv 6) (pe_ifExp (pt_cmpR op_eq (pv 7) pe_int (nomark _)) (pe_op op_fdiv (pv 8) pe_int) (pv 8)))) pe_int) (fun _ _ => rfl)))
      (pss_one (ps_expr (pe_bm PySem.F.plainAttrs_list PySem.F.slot_list_append PySem.F.type_list_append mt_append (pv 4) (pa_cons (pe_op op_add_str (pe_op op_add_str (pv 5) (pv 9)) (pe_op op_mul_str pe_str (pe_callTy call_int1 (by rfl) T.n_int (by decide +kernel) (pa_cons (pe_and (pe_cmpR op_eq (pv 7) pe_int (nomark _)) (pe_one (pe_cmpR op_eq (pe_op op_mod (pv 8) pe_int) pe_int (nomark _)))) pa_nil)))) pa_nil))))))
      (pss_one (ps_ret (pv 4))))))), ?_⟩
  refine ⟨_, rfl, b, c, _, rfl, hb, by omega, by omega, by omega, fun H1 first but1 hb1 f0 f1 => ⟨by decide, fun F hF => ⟨by unfold sizeLine; simp, fun t ht => ?_⟩⟩⟩
  have nFb := hb1.ne hF
  have s1 := (same_new hF (o := .lst [])).new ht (o := .tup [.str "abcdefghijklmnopqrstuvwxyz", .int first, .ref F])
  refine ⟨t, _, rfl, .inl (.inl upd_same), rfl, _, _, rfl, _, _, rfl, _, _, rfl, rfl, ?_⟩
  have eF : (upd (upd H1 F (.lst [])) t (.tup [.str "abcdefghijklmnopqrstuvwxyz", .int first, .ref F])) F = some (.lst []) := by
    rw [upd_ne (ne_of_none upd_same ht)]
    exact upd_same
  have hb2 := hb1.same s1
  have but2 := but1.trans (s1.but b)
  have fF1 : H F = none := but1.free nFb hF
  generalize (upd (upd H1 F (.lst [])) t (.tup [.str "abcdefghijklmnopqrstuvwxyz", .int first, .ref F])) = H2 at s1 eF hb2 but2
  refine ⟨⟨_, rfl⟩, _, rfl, b, _, _, rfl, hb2, by omega, by omega, by omega, fun H3 six but3 hb3 g0 g1 => ⟨six, rfl, by omega, by omega, fun D hD => ?_⟩⟩
  have nDb := hb3.ne hD
  refine lc_it walk_range (fun i H' => But b H3 H' ∧ BoxAt H' b (c + 2 + i) ∧ ∃ ys : List Str, H' D = some (.lst (ys.map V.str)) ∧ ys.length = i ∧ ∀ y ∈ ys, Sign y)
    ⟨(But.refl _ _).new hD, (hb3.same (same_new hD)).mono (by omega), [], upd_same, rfl, fun y hy => by cases hy⟩ (fun _ _ _ _ => trivial) ?_ ?_
  · rintro i x H4 _ hi ⟨but4, hb4, ys, e4, l4, sg⟩ ⟨rfl, ex⟩
    refine ⟨rfl, _, rfl, _, rfl, b, _, _, rfl, hb4, by omega, by omega, by omega, fun H5 q but5 hb5 q0 q1 => ?_⟩
    refine ⟨alpha, q, _, rfl, rfl, by unfold sizeLine; decide +kernel, at_alpha q0 q1, ys.map V.str, but5 _ _ nDb e4, ?_, ?_⟩
    · rw [List.length_map]
      unfold sizeLine
      omega
    · refine ⟨(but4.trans but5).mut hD, (hb5.but_mut nDb).mono (by omega), ys ++ [signOf q.toNat], ?_, by rw [List.length_append, l4]; rfl, fun y hy => ?_⟩
      · rw [upd_same, List.map_append]
        rfl
      · rcases List.mem_append.mp hy with z | z
        · exact sg y z
        · have e : y = signOf q.toNat := by simpa using z
          rw [e]
          exact sign_of (by omega)
  · rintro H4 ⟨but4, hb4, ys, e4, l4, sg⟩
    obtain ⟨st1, st2⟩ := stem_ok ys sg
    refine ⟨_, D, ys, rfl, rfl, .inl (SqL.of e4), ?_, ?_⟩
    · rw [sign_sum ys sg]
      show ys.length + ys.length * 0 ≤ _
      omega
    generalize Txt.join (Str.ofString "") ys = stem at st1 st2
    have but14 := (but2.trans but3).trans but4
    have eF4 := (but3.trans but4) _ _ nFb eF
    clear but3 but4 hb3 hb2
    refine ⟨by unfold sizeLine; simp, fun N hN => ?_⟩
    have s5 := same_new hN (o := .lst [V.int 1, .int 3, .int 25])
    have hb5 := hb4.same s5
    have nNb := hb4.ne hN
    have eN : (upd H4 N (.lst [V.int 1, .int 3, .int 25])) N = some (.lst [V.int 1, .int 3, .int 25]) := upd_same
    have eF5 := s5 _ _ eF4
    have but15 := but14.trans (s5.but b)
    generalize (upd H4 N (.lst [V.int 1, .int 3, .int 25])) = H5 at s5 hb5 eN eF5 but15
    refine ⟨_, rfl, b, _, _, rfl, hb5, by omega, by omega, by omega, fun H6 s3 but6 hb6 a0 a1 => ?_⟩
    obtain ⟨st, hst, hst2⟩ : ∃ st : Nat, atI [V.int 1, .int 3, .int 25] s3 = some (.int st) ∧ (st = 1 ∨ st = 3 ∨ st = 25) := by
      have h : s3 = 0 ∨ s3 = 1 ∨ s3 = 2 := by omega
      rcases h with h | h | h <;> subst h
      · exact ⟨1, rfl, .inl rfl⟩
      · exact ⟨3, rfl, .inr (.inl rfl)⟩
      · exact ⟨25, rfl, .inr (.inr rfl)⟩
    have eF6 := but6 _ _ nFb eF5
    have but16 := but15.trans but6
    refine ⟨N, _, s3, _, rfl, rfl, SqL.of (but6 _ _ nNb eN), hst, _, rfl, b, _, _, rfl, hb6, by omega, by omega, by omega, fun H7 lg but7 hb7 b0 b1 => ⟨_, _, rfl, ?_⟩⟩
    have eF7 := but7 _ _ nFb eF6
    have but17 := but16.trans but7
    have ef : first = ((first.toNat : Nat) : Int) := by omega
    have el : lg = ((lg.toNat : Nat) : Int) := by omega
    have hf26 : first.toNat < 26 := by omega
    generalize first.toNat = f at ef hf26
    generalize lg.toNat = lgn at el
    subst ef el
    refine ⟨_, rfl, (many : Nat), rfl, by omega, by omega, ?_⟩
    rw [Int.toNat_natCast]
    refine for_it walk_range (fun i σ H' => ∃ (y1 y2 y3 : Option V), σ = [some (.ref b), some (.int many), some (.str alpha), some (.int f), some (.ref F), some (.str stem), some (.int st), some (.int lgn), y1, y2, y3] ∧ But b H H' ∧ BoxAt H' b (c + 20) ∧
      H' F = some (.lst (((List.range i).map (nameAt stem f st lgn)).map V.str)))
      ⟨_, _, _, rfl, but17, hb7.mono (by omega), eF7⟩ (fun _ _ _ _ _ => trivial) ?_ ?_
    · rintro i x σ _ H8 hi ⟨y1, y2, y3, rfl, but8, hb8, eF8⟩ ⟨rfl, ex⟩
      have ex2 : x = .int (i : Nat) := by rw [ex]; exact congrArg V.int (Int.zero_add _)
      subst ex2
      refine ⟨_, rfl, _, rfl, _, rfl, rd_half rfl rfl ?_⟩
      generalize hkk : (if lgn = 1 then i / 2 else i) = kk
      have hkk2 : kk ≤ 26 := by rw [← hkk]; split <;> omega
      have eidx : ((f : Nat) : Int) + ((st : Nat) : Int) * ((kk : Nat) : Int) = ((f + st * kk : Nat) : Int) := by simp
      refine ⟨_, _, rfl, rfl, .inl ⟨by omega, by omega⟩, _, _, rfl, rfl, _, _, rfl, rfl, by omega, ?_⟩
      have hix : (f + st * kk) % 26 = idxAt f st lgn i := by unfold idxAt; rw [hkk]
      have hix2 : idxAt f st lgn i < 26 := Nat.mod_lt _ (by omega)
      have hq : (((f : Nat) : Int) + ((st : Nat) : Int) * ((kk : Nat) : Int)) % 26 = ((idxAt f st lgn i : Nat) : Int) := by
        rw [eidx, ← hix]
        omega
      have hat : atI alpha.cps.toList ((((f : Nat) : Int) + ((st : Nat) : Int) * ((kk : Nat) : Int)) % 26) = some (alpha.cps.toList.getD (idxAt f st lgn i) 0) := by
        rw [hq, at_alpha (by omega) (by omega), Int.toNat_natCast]
      refine ⟨alpha, _, _, rfl, rfl, by unfold sizeLine; decide +kernel, hat, ?_⟩
      have hsl : stem.length ≤ 5 := by
        show stem.cps.size ≤ 5
        rw [← Array.length_toList]
        omega
      refine ⟨_, rfl, .inl ⟨rfl, _, SqL.of eF8⟩, _, rfl, _, rfl, _, _, rfl, rfl, ?_, ?_⟩
      · show stem.length + 1 ≤ sizeLine
        unfold sizeLine
        omega
      refine rd_odd rfl rfl (.inr ⟨_, rfl, ?_⟩)
      have elen : (((List.range i).map (nameAt stem f st lgn)).map V.str).length < sizeLine := by
        rw [List.length_map, List.length_map, List.length_range]
        exact sz100 (by omega)
      have enext : ∀ suf : Str, suf = (if lgn = 1 ∧ i % 2 = 1 then abS else Str.empty) → (upd H8 F (.lst (((List.range i).map (nameAt stem f st lgn)).map V.str ++ [V.str ((stem ++ ⟨#[alpha.cps.toList.getD (idxAt f st lgn i) 0]⟩) ++ suf)]))) F =
          some (.lst (((List.range (i + 1)).map (nameAt stem f st lgn)).map V.str)) := fun suf hs => by
        rw [upd_same, List.range_succ, List.map_append, List.map_append, hs]
        rfl
      have sl1 : ∀ suf : Str, suf.length ≤ 2 → (stem ++ (⟨#[alpha.cps.toList.getD (idxAt f st lgn i) 0]⟩ : Str)).length + suf.length ≤ sizeLine := fun suf h => by
        have e : (stem ++ (⟨#[alpha.cps.toList.getD (idxAt f st lgn i) 0]⟩ : Str)).length = stem.length + 1 := by
          show (stem.cps ++ #[alpha.cps.toList.getD (idxAt f st lgn i) 0]).size = _
          rw [Array.size_append]
          rfl
        rw [e]
        unfold sizeLine
        omega
      by_cases hodd : lgn = 1 ∧ i % 2 = 1
      · rw [decide_eq_true hodd, if_pos rfl]
        exact ⟨_, _, rfl, rfl, .inr ⟨rfl, _, _, rfl, rfl, sl1 _ (by decide +kernel), F, _, _, rfl, rfl, eF8, elen, _, _, _, rfl, but8.mut fF1, hb8.but_mut nFb, enext _ (by rw [if_pos hodd]; rfl)⟩⟩
      · rw [decide_eq_false hodd, if_neg Bool.false_ne_true]
        exact ⟨_, _, rfl, rfl, .inl ⟨rfl, _, _, rfl, rfl, sl1 _ (by decide +kernel), F, _, _, rfl, rfl, eF8, elen, _, _, _, rfl, but8.mut fF1, hb8.but_mut nFb, enext _ (by rw [if_neg hodd])⟩⟩
    · rintro σ H8 ⟨y1, y2, y3, rfl, but8, hb8, eF8⟩
      refine ⟨_, rfl, k _ _ _ but8 hb8 (dL_of (SqL.of eF8)) (by simp) (nodup_map_range fun i j hi hj h => name_inj hst2 hf26 (by omega) (by omega) h) fun n hn => ?_⟩
      obtain ⟨i, _, e⟩ := List.mem_map.mp hn
      rw [← e]
      exact name_ok (by omega) st2
end
end WC
namespace WC
open PySem PySem.Spec PyProof.Rows L2
/-- an evening as the law draws it -/
structure Good (e : Ev) : Prop where
  rnd : e.rack.Nodup
  gnd : e.guests.Nodup
  len : e.rack.length = e.guests.length
  lo : 2 ≤ e.guests.length
  hi : e.guests.length ≤ 24
  names : ∀ g ∈ e.guests, NameOk g
theorem lless_S (x : Str) : lless (.str x) = true := rfl
theorem intless_S (x : Str) : intless (.str x) = true := rfl
section
variable {P : Program} {w : World} {K : PySem.W.Frag} {mg : Str → Option Value} {base : Heap}
theorem LL.strs {H : Hp} {v : V} {ns : List Str} (h : LL K H v (ns.map PyData.str)) : ∃ l, v = .ref l ∧ H l = some (.lst (ns.map V.str)) := by
  obtain ⟨l, zs, rfl, h1, h2⟩ := h
  rw [DpAll.of_strs h2] at h1
  exact ⟨l, rfl, h1⟩
theorem rd_slL {H : Hp} {Q : VK} {l : Addr} {xs : List V} {lo hi : Option Int} (hl : H l = some (.lst xs)) (k : ∀ p H', Same H H' → H p = none → H' p = some (.lst (cutV xs lo hi)) → Q (.ref p) H') : rSlL K (.ref l) lo hi H Q :=
  ⟨l, xs, rfl, SqL.of hl, fun p hp => k p _ (same_new hp) hp upd_same⟩
theorem rd_cat2 {H : Hp} {Q : VK} {l m : Addr} {xs ys : List V} (hl : H l = some (.lst xs)) (hm : H m = some (.lst ys)) (hz : xs.length + ys.length ≤ 10000) (k : ∀ p H', Same H H' → H p = none → H' p = some (.lst (xs ++ ys)) → Q (.ref p) H') : rCat (.ref l) (.ref m) H Q :=
  ⟨l, m, xs, ys, rfl, rfl, hl, hm, by unfold sizeLine; omega, fun p hp => k p _ (same_new hp) hp upd_same⟩
theorem sz4 : 4 ≤ sizeLine := by unfold sizeLine; omega
theorem pick4 {a0 a1 a2 a3 i : Int} (h0 : 0 ≤ i) (h1 : i < 4) : ∃ x : Int, atI [V.int a0, .int a1, .int a2, .int a3] i = some (.int x) ∧ (x = a0 ∨ x = a1 ∨ x = a2 ∨ x = a3) := by
  have h : i = 0 ∨ i = 1 ∨ i = 2 ∨ i = 3 := by omega
  rcases h with h | h | h | h <;> subst h
  · exact ⟨a0, rfl, .inl rfl⟩
  · exact ⟨a1, rfl, .inr (.inl rfl)⟩
  · exact ⟨a2, rfl, .inr (.inr (.inl rfl))⟩
  · exact ⟨a3, rfl, .inr (.inr (.inr rfl))⟩
/-! ### _law_night -/
def sp_L_night (K : PySem.W.Frag) : Sp := fun vs H Q _ => ∃ (b : Addr) (c : Int), vs = [.ref b, .int 2, .int 24] ∧ BoxAt H b c ∧ c ≤ 800000000 ∧ ∀ H' v e, But b H H' → BoxAt H' b (c + 5000) → Dp K H' v (dE e) → Good e → Q v H'
theorem sc_L_night : FnScope ["_law_box_here", "_law_low", "_law_high", "_law_many", "_law_names_here", "_law_folk", "_law_strange", "_law_away", "_law_hung", "_law_way", "_law_gone", "_law_guest"] ["_law_box_here", "_law_low", "_law_high"] (defScope s_L_night) := ⟨rfl, rfl, rfl, by decide +kernel, rfl, by decide +kernel, by decide +kernel⟩
theorem ok_L_night (T : Tx K mg) : FnOk P w K mg base CX0 3 (He.ga K "_law_night") T.fd_L_night ["_law_box_here", "_law_low", "_law_high"] (sp_L_night K) := by
  refine T.F_L_night.ok sc_L_night (fun vs H Q E h => ?_) (fun cdv A outer s H vs Q E hr h => ?_)
  · obtain ⟨b, c, rfl, _⟩ := h
    rfl
  obtain ⟨b, c, rfl, hb, hc, k⟩ := h
  refine ⟨_, PSs.nox (pss_cons (ps_set (i := 3) sc_L_night.nd rfl (Or.inl rfl) (pe_op op_add (pv 1) (pe_call (ok_L_take T) (hr.mono (by decide)) rfl T.g_L_take T.F_L_take.kp T.b_L_take .nil pass0 (pa_cons (pv 0) (pa_cons (pe_op op_add (pe_op op_sub (pv 2) (pv 1)) pe_int) pa_nil)))))
      (pss_cons (ps_set (i := 4) sc_L_night.nd rfl (Or.inl rfl) (pe_call (ok_L_strewn T) (hr.mono (by decide)) rfl T.g_L_strewn T.F_L_strewn.kp T.b_L_strewn .nil pass0 (pa_cons (pv 0) (pa_cons (pe_call (ok_L_names T) (hr.mono (by decide)) rfl T.g_L_names T.F_L_names.kp T.b_L_names .nil pass0 (pa_cons (pv 0) (pa_cons (pe_callB (call_min2 rfl) (by rfl) T.n_min (by decide +kernel) (pa_cons pe_int (pa_cons (pe_op op_add (pv 3) pe_int) pa_nil))) pa_nil))) pa_nil))))
      (pss_cons (ps_par (i := 5) (j := 6) rfl sc_L_night.nd rfl rfl (by decide) rfl rfl (pa_cons (pe_slice sl_list (pv 4) po_none (po_some (pv 3))) (pa_cons (pe_slice sl_list (pv 4) (po_some (pv 3)) po_none) pa_nil)) rfl)
      (pss_cons (ps_set (i := 7) sc_L_night.nd rfl (Or.inl rfl) (pe_callB (call_min3 rfl) (by rfl) T.n_min (by decide +kernel) (pa_cons (pv 3) (pa_cons (pe_callB call_len_seq (by rfl) T.n_len (by decide +kernel) (pa_cons (pv 6) pa_nil)) (pa_cons (pe_ix ix_list (pe_lst (pa_cons pe_int (pa_cons pe_int (pa_cons pe_int (pa_cons pe_int pa_nil))))) (pe_call (ok_L_take T) (hr.mono (by decide)) rfl T.g_L_take T.F_L_take.kp T.b_L_take .nil pass0 (pa_cons (pv 0) (pa_cons pe_int pa_nil))) (fun _ _ => rfl)) pa_nil)))))
      (pss_cons (ps_set (i := 8) sc_L_night.nd rfl (Or.inl rfl) (pe_call (ok_L_strewn T) (hr.mono (by decide)) rfl T.g_L_strewn T.F_L_strewn.kp T.b_L_strewn .nil pass0 (pa_cons (pv 0) (pa_cons (pe_op op_cat (pe_slice sl_list (pv 5) (po_some (pv 7)) po_none) (pe_slice sl_list (pv 6) po_none (po_some (pv 7)))) pa_nil))))
      (pss_cons (ps_par (i := 9) (j := 10) rfl sc_L_night.nd rfl rfl (by decide) rfl rfl (pa_cons (pe_call (ok_L_take T) (hr.mono (by decide)) rfl T.g_L_take T.F_L_take.kp T.b_L_take .nil pass0 (pa_cons (pv 0) (pa_cons pe_int pa_nil))) (pa_cons (pe_lst pa_nil) pa_nil)) rfl)
      (pss_cons (ps_for PassesOwn.never rfl (pi_list (pv 5)) (pg_name (i := 11) sc_L_night.nd rfl (Or.inl rfl)) (pss_one (ps_if (pt_cmpR op_eq (pe_call (ok_L_take T) (hr.mono (by decide)) rfl T.g_L_take T.F_L_take.kp T.b_L_take .nil pass0 (pa_cons (pv 0) (pa_cons (pe_ix ix_list (pe_lst (pa_cons pe_int (pa_cons pe_int (pa_cons pe_int (pa_cons pe_int pa_nil))))) (pv 9) (fun _ _ => rfl)) pa_nil))) pe_int (nomark _)) (pss_one (ps_expr (pe_bm PySem.F.plainAttrs_list PySem.F.slot_list_append PySem.F.type_list_append mt_append (pv 10) (pa_cons (pv 11) pa_nil)))) pss_nil)))
      (pss_one (ps_ret (pe_tup (pa_cons (pe_callTy call_tuple_of (by rfl) T.n_tuple (by decide +kernel) (pa_cons (pv 8) pa_nil)) (pa_cons (pe_callTy call_tuple_of (by rfl) T.n_tuple (by decide +kernel) (pa_cons (pe_callB (cr_sortedT hr) (by rfl) T.n_sorted (by decide +kernel) (pa_cons (pv 5) pa_nil)) pa_nil)) (pa_cons (pe_callTy call_tuple_of (by rfl) T.n_tuple (by decide +kernel) (pa_cons (pe_callB (cr_sortedT hr) (by rfl) T.n_sorted (by decide +kernel) (pa_cons (pv 10) pa_nil)) pa_nil)) pa_nil))))))))))))), ?_⟩
  refine ⟨_, rfl, _, rfl, _, rfl, _, rfl, _, _, rfl, rfl, _, _, rfl, rfl, b, _, _, rfl, hb, by omega, by omega, by omega, fun H1 r but1 hb1 r0 r1 => ⟨_, _, rfl, rfl, ?_⟩⟩
  obtain ⟨m, hm⟩ : ∃ m : Nat, (2 : Int) + r = (m : Int) := ⟨(2 + r).toNat, by omega⟩
  have m2 : 2 ≤ m := by omega
  have m24 : m ≤ 24 := by omega
  show gName 3 (.int (2 + r)) _ _ _
  rw [hm]
  have hN : (if ((m : Nat) : Int) + 3 < 26 then ((m : Nat) : Int) + 3 else 26) = ((min 26 (m + 3) : Nat) : Int) := by split <;> omega
  refine ⟨_, rfl, _, rfl, _, rfl, _, _, rfl, rfl, _, _, rfl, b, _, min 26 (m + 3), congrArg (fun i => [V.ref b, V.int i]) hN, hb1, by omega, by omega, fun H2 v ns but2 hb2 hv hl nd nok => ?_⟩
  obtain ⟨l, rfl, hl2⟩ := dL_at hv
  refine ⟨Str, inferInstance, PyData.str, encS, b, _, l, ns.map V.str, ns, rfl, hb2, by omega, .inl hl2, DpAll.strs ns, by omega, fun _ => Nat.zero_le _, lless_S, intless_S, fun H3 v3 ns' but3 hb3 perm hv3 => ?_⟩
  obtain ⟨nl, rfl, hnl⟩ := LL.strs hv3
  have nlen := perm.length_eq
  have nd' := perm.nodup_iff.mpr nd
  have nok' : ∀ n ∈ ns', NameOk n := fun n hn => nok n (perm.mem_iff.mp hn)
  have but13 := (but1.trans but2).trans but3
  clear but1 but2 but3 hb1 hb2 hv hv3 hl2
  -- folk and strange
  refine ⟨_, rfl, _, rfl, (m : Nat), rfl, rd_slL hnl fun F1 H4 s4 hF1 eF1 => ⟨_, rfl, _, rfl, (m : Nat), rfl, ?_⟩⟩
  dsimp only [tNoPart]
  refine rd_slL (s4 _ _ hnl) fun F2 H5 s5 hF2 eF2 => ⟨_, _, rfl, ?_⟩
  rw [cut_take, ← List.map_take] at eF1
  rw [cut_drop, ← List.map_drop] at eF2
  have eF1' := s5 _ _ eF1
  have nF1b := hb3.ne hF1
  have nF2b := (hb3.same s4).ne hF2
  have hb5 := (hb3.same s4).same s5
  have but15 := but13.trans ((s4.trans s5).but b)
  have lfolk : (ns'.take m).length = m := by rw [List.length_take]; omega
  have lstr : (ns'.drop m).length = ns'.length - m := List.length_drop
  have ndall : (ns'.take m ++ ns'.drop m).Nodup := by rw [List.take_append_drop]; exact nd'
  have nokf : ∀ n ∈ ns'.take m, NameOk n := fun n hn => nok' n (List.mem_of_mem_take hn)
  generalize ns'.take m = folk at eF1 eF1' lfolk ndall nokf
  generalize ns'.drop m = strange at eF2 lstr ndall
  -- how many are away
  refine ⟨_, rfl, _, rfl, F2, _, rfl, .inl (SqL.of eF2), sz4, fun N hN => ?_⟩
  have s6 := same_new hN (o := .lst [V.int 0, .int 0, .int 1, .int 3])
  have eN : (upd H5 N (.lst [V.int 0, .int 0, .int 1, .int 3])) N = some (.lst [V.int 0, .int 0, .int 1, .int 3]) := upd_same
  generalize (upd H5 N (.lst [V.int 0, .int 0, .int 1, .int 3])) = H6 at s6 eN
  refine ⟨_, rfl, b, _, _, rfl, hb5.same s6, by omega, by omega, by omega, fun H7 a4 but7 hb7 p0 p1 => ?_⟩
  obtain ⟨x4, hx4, hx4'⟩ := pick4 (a0 := 0) (a1 := 0) (a2 := 1) (a3 := 3) p0 p1
  have nNb := hb5.ne hN
  have eF1'' := but7 _ _ nF1b (s6 _ _ eF1')
  have eF2'' := but7 _ _ nF2b (s6 _ _ eF2)
  have but17 := (but15.trans (s6.but b)).trans but7
  refine ⟨N, _, a4, _, rfl, rfl, SqL.of (but7 _ _ nNb eN), hx4, _, _, _, rfl, ?_⟩
  rw [List.length_map]
  obtain ⟨aw, haw⟩ : ∃ aw : Nat, min (min ((m : Nat) : Int) (strange.length : Int)) x4 = (aw : Int) := ⟨(min (min ((m : Nat) : Int) (strange.length : Int)) x4).toNat, by omega⟩
  have aw1 : aw ≤ m := by omega
  have aw2 : aw ≤ strange.length := by omega
  rw [haw]
  clear eN hN s6 hx4 hx4' haw nNb eF1' eF2 eF1
  -- what hangs
  refine ⟨_, rfl, _, rfl, _, rfl, (aw : Nat), rfl, ?_⟩
  dsimp only [tNoPart]
  refine rd_slL eF1'' fun G1 H8 s8 hG1 eG1 => ⟨_, rfl, _, rfl, (aw : Nat), rfl, rd_slL (s8 _ _ eF2'') fun G2 H9 s9 hG2 eG2 => ?_⟩
  rw [cut_drop, ← List.map_drop] at eG1
  rw [cut_take, ← List.map_take] at eG2
  refine rd_cat2 (s9 _ _ eG1) eG2 (by simp; omega) fun G3 H10 s10 hG3 eG3 => ?_
  rw [← List.map_append] at eG3
  have s7 := (s8.trans s9).trans s10
  refine ⟨Str, inferInstance, PyData.str, encS, b, _, G3, _, folk.drop aw ++ strange.take aw, rfl, hb7.same s7, by omega, .inl (SqL.of eG3), DpAll.strs _, by simp; omega, fun _ => Nat.zero_le _, lless_S, intless_S, fun H11 vh hung but11 hb11 permh hvh => ?_⟩
  obtain ⟨hg, rfl, ehg⟩ := LL.strs hvh
  have nhg := permh.length_eq
  have hnd : hung.Nodup := permh.nodup_iff.mpr (by
    refine (List.nodup_append.mpr ⟨?_, ?_, ?_⟩)
    · exact (List.nodup_append.mp ndall).1.sublist (List.drop_sublist _ _)
    · exact (List.nodup_append.mp ndall).2.1.sublist (List.take_sublist _ _)
    · exact fun a ha b hb => (List.nodup_append.mp ndall).2.2 a (List.mem_of_mem_drop ha) b (List.mem_of_mem_take hb))
  have hlen : hung.length = m := by
    rw [nhg, List.length_append, List.length_drop, List.length_take]
    omega
  have eF1x := but11 _ _ nF1b (s7 _ _ eF1'')
  have butx := (but17.trans (s7.but b)).trans but11
  have fnd := (List.nodup_append.mp ndall).1
  clear hvh s7 s8 s9 s10 eG1 eG2 eG3 but17 but7 hb7
  -- who has lost the ticket
  have nhgb : hg ≠ b := fun z => by obtain ⟨i1, j1, k1, e1, _⟩ := hb11; rw [← z, ehg] at e1; cases hung with
    | nil => cases e1
    | cons a as => cases e1
  refine ⟨_, rfl, b, _, _, rfl, hb11, by omega, by omega, by omega, fun H12 wy but12 hb12 q0 q1 => ⟨by decide, fun Gn hGn => ⟨_, _, rfl, ?_⟩⟩⟩
  have nGb := hb12.ne hGn
  have eF12 := but12 _ _ nF1b eF1x
  have eh12 := but12 _ _ nhgb ehg
  have s13 := same_new hGn (o := .lst [])
  have eGn : (upd H12 Gn (.lst [])) Gn = some (.lst []) := upd_same
  have nGF : Gn ≠ F1 := fun z => by rw [z, eF12] at hGn; cases hGn
  have nGh : Gn ≠ hg := fun z => by rw [z, eh12] at hGn; cases hGn
  have fGn : H Gn = none := (butx.trans but12).free nGb hGn
  have butg := (butx.trans but12).trans (s13.but b)
  have hbg := hb12.same s13
  have eFg := s13 _ _ eF12
  have ehh := s13 _ _ eh12
  generalize (upd H12 Gn (.lst [])) = H13 at s13 eGn butg hbg eFg ehh
  obtain ⟨x5, hx5, hx5'⟩ := pick4 (a0 := 9) (a1 := 6) (a2 := 3) (a3 := 2) q0 q1
  refine ⟨_, rfl, F1, rfl, ⟨_, SqL.of eFg⟩, ?_⟩
  refine for_it (walkLS folk) (fun i σ H' => ∃ (gone : List Str) (y : Option V), σ = [some (.ref b), some (.int 2), some (.int 24), some (.int m), some (.ref nl), some (.ref F1), some (.ref F2), some (.int aw), some (.ref hg), some (.int wy), some (.ref Gn), y] ∧ But b H H' ∧ BoxAt H' b (c + 2100 + i) ∧
    H' F1 = some (.lst (folk.map V.str)) ∧ H' hg = some (.lst (hung.map V.str)) ∧ H' Gn = some (.lst (gone.map V.str)) ∧ gone.length ≤ i)
    ⟨[], _, rfl, butg, hbg.mono (by omega), eFg, ehh, eGn, Nat.le_refl _⟩ (fun i σ H' _ ⟨_, _, _, _, _, h, _⟩ => SqL.of h) ?_ ?_
  · rintro i x σ _ H14 hi ⟨gone, y, rfl, but14, hb14, eF14, eh14, eG14, glen⟩ ⟨rfl, g, eg, rfl⟩
    refine ⟨_, rfl, sz4, fun N hN => ?_⟩
    have s15 := same_new hN (o := .lst [V.int 9, .int 6, .int 3, .int 2])
    refine ⟨_, rfl, N, _, wy, _, rfl, rfl, SqL.of upd_same, hx5, b, _, _, rfl, hb14.same s15, by omega, by omega, by omega, fun H16 q but16 hb16 d0 d1 => ?_⟩
    refine ⟨rfl, _, rfl, ?_⟩
    have eF16 := but16 _ _ nF1b (s15 _ _ eF14)
    have eh16 := but16 _ _ nhgb (s15 _ _ eh14)
    have eG16 := but16 _ _ nGb (s15 _ _ eG14)
    have but16' := (but14.trans (s15.but b)).trans but16
    refine ite2 (fun z => ?_) (fun z => ?_)
    · refine ⟨_, rfl, .inl ⟨rfl, _, SqL.of eG16⟩, _, rfl, Gn, _, _, rfl, rfl, eG16, by rw [List.length_map]; exact sz100 (by omega), gone ++ [g], _, rfl, but16'.mut fGn, (hb16.but_mut nGb).mono (by omega), ?_, ?_, ?_, ?_⟩
      · rw [upd_ne nGF.symm]
        exact eF16
      · rw [upd_ne nGh.symm]
        exact eh16
      · rw [upd_same, List.map_append]
        rfl
      · rw [List.length_append]
        exact Nat.succ_le_succ glen
    · exact ⟨gone, _, rfl, but16', hb16.mono (by omega), eF16, eh16, eG16, by omega⟩
  · rintro σ H14 ⟨gone, y, rfl, but14, hb14, eF14, eh14, eG14, glen⟩
    refine ⟨_, rfl, hg, _, rfl, .inl ⟨SqL.of eh14, fun t1 ht1 => ?_⟩⟩
    have t1a : SqT K (upd H14 t1 (.tup (hung.map V.str))) t1 (hung.map V.str) := .inl (.inl upd_same)
    have s15 := same_new ht1 (o := .tup (hung.map V.str))
    have eF15 := s15 _ _ eF14
    have eG15 := s15 _ _ eG14
    generalize (upd H14 t1 (.tup (hung.map V.str))) = H15 at t1a s15 eF15 eG15
    refine ⟨_, rfl, F1, folk, rfl, dL_of (SqL.of eF15), fun p1 ys hp1 hys => ⟨p1, ys, rfl, .inl ⟨SqL.of upd_same, fun t2 ht2 => ?_⟩⟩⟩
    have hys' := DpAll.of_strs hys
    subst hys'
    have t2a : SqT K (upd (upd H15 p1 (.lst ((folk.mergeSort (PySem.W.dataLe false PyData.str)).map V.str))) t2 (.tup ((folk.mergeSort (PySem.W.dataLe false PyData.str)).map V.str))) t2 ((folk.mergeSort (PySem.W.dataLe false PyData.str)).map V.str) := .inl (.inl upd_same)
    have s16 := (same_new hp1 (o := .lst ((folk.mergeSort (PySem.W.dataLe false PyData.str)).map V.str))).new ht2 (o := .tup ((folk.mergeSort (PySem.W.dataLe false PyData.str)).map V.str))
    have eG16 := s16 _ _ eG15
    generalize (upd (upd H15 p1 (.lst ((folk.mergeSort (PySem.W.dataLe false PyData.str)).map V.str))) t2 (.tup ((folk.mergeSort (PySem.W.dataLe false PyData.str)).map V.str))) = H16 at t2a s16 eG16
    refine ⟨_, rfl, Gn, gone, rfl, dL_of (SqL.of eG16), fun p3 ys hp3 hys => ⟨p3, ys, rfl, .inl ⟨SqL.of upd_same, fun t3 ht3 => ?_⟩⟩⟩
    have hys' := DpAll.of_strs hys
    subst hys'
    have t3a : SqT K (upd (upd H16 p3 (.lst ((gone.mergeSort (PySem.W.dataLe false PyData.str)).map V.str))) t3 (.tup ((gone.mergeSort (PySem.W.dataLe false PyData.str)).map V.str))) t3 ((gone.mergeSort (PySem.W.dataLe false PyData.str)).map V.str) := .inl (.inl upd_same)
    have s17 := (same_new hp3 (o := .lst ((gone.mergeSort (PySem.W.dataLe false PyData.str)).map V.str))).new ht3 (o := .tup ((gone.mergeSort (PySem.W.dataLe false PyData.str)).map V.str))
    generalize (upd (upd H16 p3 (.lst ((gone.mergeSort (PySem.W.dataLe false PyData.str)).map V.str))) t3 (.tup ((gone.mergeSort (PySem.W.dataLe false PyData.str)).map V.str))) = H17 at t3a s17
    refine ⟨by unfold sizeLine; simp, fun q hq => ?_⟩
    have s18 := same_new hq (o := .tup [.ref t1, .ref t2, .ref t3])
    have sall := ((s15.trans s16).trans s17).trans s18
    have pf := List.mergeSort_perm folk (PySem.W.dataLe false PyData.str)
    refine k _ _ ⟨hung, folk.mergeSort (PySem.W.dataLe false PyData.str), gone.mergeSort (PySem.W.dataLe false PyData.str)⟩ (but14.trans (sall.but b)) ((hb14.same sall).mono (by omega)) ?_ ?_
    · refine .tup (.inl (.inl upd_same)) (.cons (dT_of (((s16.trans s17).trans s18).sqt t1a)) (.cons (dT_of ((s17.trans s18).sqt t2a)) (.cons (dT_of (s18.sqt t3a)) .nil)))
    · have pl := pf.length_eq
      exact ⟨hnd, pf.nodup_iff.mpr fnd, by show hung.length = (folk.mergeSort _).length; omega, by show 2 ≤ (folk.mergeSort _).length; omega, by show (folk.mergeSort _).length ≤ 24; omega, fun g hg => nokf g (pf.mem_iff.mp hg)⟩
end
end WC
/-! defs that are called where no repr is under way -/
namespace WC
open PySem PySem.Spec PyProof.Rows L2
/-- as FnOk, where it is known that nothing is being shown -/
structure FnOkG (P : Program) (w : World) (K : PySem.W.Frag) (mg : Str → Option Value) (base : Heap) (k : Nat) (f : Addr) (fd : FuncData) (ps : List Str) (sp : Sp) : Prop where
  len : ∀ ws H Q E, sp ws H Q E → ws.length = ps.length
  run : ∀ (A : Around) (out : List Env) (s : Shared) (H : Hp) (args : Args) (us : List Value) (ws : List V) (Q : VK) (E : XK), A.guards = some [] → Room k A → Env0 P w K mg base A out s H →
    BindsTo s fd args (ps.zip us) → Vals ws us → sp ws H Q E → codeAny (model P w) A (.call (.ref f) args) (CR CX0 out P w H s Q E) s
section
variable {P : Program} {w : World} {K : PySem.W.Frag} {mg : Str → Option Value} {base : Heap} {x qual : Str} {params : Arguments} {body : List Stmt} {scope : Scope} {f : Addr} {fd : FuncData}
theorem okG {N ps : List Str} {k : Nat} {sp : Sp} (F : FunD K x qual params body scope [] [] f fd) (S : FnScope N ps scope) (len : ∀ ws H Q E, sp ws H Q E → ws.length = ps.length)
    (hbody : ∀ (cdv : Value) (A : Around) (out : List Env) (s : Shared) (H : Hp) (ws : List V) (Q : VK) (E : XK), (A.deeper (envOfC qual scope s.heap.objs.size f cdv)).guards = some [] →
      Room k (A.deeper (envOfC qual scope s.heap.objs.size f cdv)) → sp ws H Q E →
      ∃ t, PSs (cxOf CX0 P w K mg base N qual scope f cdv A out s H E) body t ∧ t { nx := fun _ H' => Q .non H', rt := Q } (start N ws) H) : FnOkG P w K mg base (k + 1) f fd ps sp := by
  obtain ⟨oc, od, dV, kV, doc, pm, an, cdv, ct, osl, rfl, lk, hcd, _, _⟩ := F.ex
  refine ⟨len, fun A out s H args us ws Q E hg hr env0 hbd rel hsp => ?_⟩
  have KI : K.In s.heap := env0.mod.kin.keeps fun a o e => (env0.bs a o e).1
  have nolim : s.heap.NoLimit := env0.mod.nolimit.keeps fun a o e => (env0.bs a o e).1
  have kinds : ∀ y ∈ ps.zip us, scope.names.lookup y.1 = some .local ∨ (scope.names.lookup y.1 = some .cell ∧ ((cellsFrom (s.heap.objs.size + 1) scope.names []).lookup y.1).isSome = true) := by
    rintro ⟨n, v⟩ hy
    rcases S.par n (List.of_mem_zip hy).1 with q | q
    · exact Or.inl q
    · exact Or.inr ⟨q, PySem.W.cellsFrom_some _ _ _ (Or.inl q)⟩
  refine codeAny_call_function hr.depth (KI _ _ lk) rfl S.co S.gen rfl (PySem.W.codeRec_of KI hcd) (hbd _ _ _ _ ?_)
  refine wpAny_newFunctionEnv_cells S.kind kinds fun env he s1 x1 => ?_
  subst he
  refine ⟨nolim.keeps x1.toInCall.keep, codeAny_func ?_⟩
  obtain ⟨t, ht, hq⟩ := hbody cdv A out s H ws Q E hg (hr.deeper _) hsp
  have I : Inv (cxOf CX0 P w K mg base N qual scope f cdv A out s H E) [] (start N ws) H s1 := inv_start S hr.hd env0 (len _ _ _ _ hsp) rel x1
  refine wpAny_mono (ht.run [] s1 (start N ws) H _ I hq) (fun fl s2 hs => ?_) fun _ _ hs => hs
  have fin : ∀ {τ : L2.St} {H2 : Hp} {v : V} {u : Value}, Inv (cxOf CX0 P w K mg base N qual scope f cdv A out s H E) [] τ H2 s2 → RelV v u → Q v H2 → CE out P w H s Q u s2 :=
    fun {τ H2 v u} J rv q => ⟨v, H2, J.os, J.bare, J.base, J.hok, rv, q⟩
  cases fl with
  | ret u =>
    obtain ⟨v, τ, H2, J, rv, q⟩ := hs
    exact fin J rv q
  | next =>
    obtain ⟨τ, H2, J, q⟩ := hs
    exact fin (v := .non) (u := .none) J rfl q
  | brk =>
    obtain ⟨_, _, _, q⟩ := hs
    exact q.elim
  | cont =>
    obtain ⟨_, _, _, q⟩ := hs
    exact q.elim
end
section
variable {X : Cx} {k : Nat} {f : Addr} {fd : FuncData} {ps : List Str} {sp : Sp} {x : Str} {p pos : Pos} {e : Expr} {es : List Expr} {t : TA}
theorem pe_callG (F : FnOkG X.prog X.w X.K X.mg X.base k f fd ps sp) (hg0 : X.A.guards = some []) (hr : Room k X.A) (hg : Gl X x) (hm : X.mg x = some (.ref f)) (hk : PySem.W.keepIn X.K (.ref f) = true) (hb : Binds X.K fd ps [])
    (ha : PA X (e :: es) t) (hdb : (x == ("__debug__" : Str)) = false := by decide) (he : starEach (e :: es) X.env = (false, eval e X.env) :: starEach es X.env := by rfl)
    (hpl : (backTo pos (starEach es X.env)).any (·.1) = false := by rfl) : PE X (.Call (.Name x p) (e :: es) [] pos) (tCall sp [] E0 t) := by
  refine ⟨fun pins s σ H Q I h => ?_⟩
  refine wpAny_Call_Name_kw (ld_glob I hg hm ?_ hdb)
  refine PySem.W.callWith_K (h₀ := X.base) I.ok.mod.kin hk (thn (ha.run pos pins s σ H _ I h) fun us s1 ⟨ws, H1, I1, r, q⟩ => ⟨I1.kIn, ?_⟩) he hpl
  have q0 : sp ws H1 Q E0 := by rw [← List.append_nil ws]; exact q
  have hl : us.length = ps.length := by rw [← r.length]; exact F.len _ _ _ _ q0
  have hbd := hb s1 us I1.kIn (by rw [List.append_nil]; exact hl)
  rw [List.append_nil] at hbd
  refine wpAny_call (codeAny_mono (F.run X.A X.stack s1 H1 ⟨us, []⟩ us ws Q E0 hg0 hr I1.env0 hbd r q0) fun r2 s2 hq => ?_)
  cases r2 with
  | error e => exact hq.elim
  | ok fl =>
    cases fl with
    | ret u => exact I1.after hq
    | next => exact hq.elim
    | brk => exact hq.elim
    | cont => exact hq.elim
end
end WC
/-! an exception that is caught, kept in another name, and read behind the suite -/
namespace WC
open PySem PySem.Spec PyProof.Rows L2
/-- the caught object, no longer in flight -/
def excT (a C dd : Addr) : HO := .ext fun h => ∃ (oe : Obj) (vs : Array Value), h.get? a = some oe ∧ oe.cls = .ref C ∧ oe.dict = some dd ∧ oe.data = .fields vs
theorem excT_ok {P : Program} {w : World} {H : Hp} {h : Heap} {a C dd : Addr} {oe : Obj} {vs : Array Value} (e : h.get? a = some oe) (h1 : oe.cls = .ref C) (h2 : oe.dict = some dd) (h3 : oe.data = .fields vs) : ObjOk P w H h a (excT a C dd) :=
  ⟨⟨oe, vs, e, h1, h2, h3⟩, ⟨oe, e⟩, fun g1 g2 z k => let ⟨o, v, q, r⟩ := z; ⟨o, v, k o q, r⟩⟩
section
variable {X : Cx} {pins : List (Addr × Obj)} {σ τ : L2.St} {H G : Hp} {s sI : Shared}
/-- an object that came since may be tracked -/
theorem trackNow {a : Addr} {o : HO} (I : Inv X pins σ H s) (J : Inv X pins τ G sI) (h0 : sI.heap.get? a = none) (na : H a = none) (new : ObjOk X.prog X.w (upd H a o) s.heap a o) (hx : X.ex = []) : Inv X pins σ (upd H a o) s := by
  have ne0 : ∀ b u, X.s_0.heap.get? b = some u → b ≠ a := fun b u e z => by
    obtain ⟨u2, e2⟩ := J.base.there b u e (by rw [hx]; exact List.not_mem_nil)
    rw [z, h0] at e2
    cases e2
  have neL : X.env.locals ≠ a := fun z => by
    obtain ⟨m, ⟨u, _, _, e, _⟩, _⟩ := J.loc
    rw [z, h0] at e
    cases e
  have neC : ∀ x c, X.env.cells.lookup x = some c → c ≠ a := fun x c e z => by
    obtain ⟨v, u, e2, _⟩ := J.cell x c e
    rw [z, h0] at e2
    cases e2
  have neP : ∀ p ∈ X.pn ++ pins, p.1 ≠ a := fun p hp z => by
    have e2 := (J.pin p hp).1
    rw [z, h0] at e2
    cases e2
  refine ⟨I.ok, I.os, I.bare, ⟨I.base.keep, I.base.slot, fun b u e n q => ?_, I.base.there, fun b xs e => ?_, fun b u v e => ?_, fun b ps e => ?_⟩, I.loc, I.cell, ?_, fun x c e => ?_, fun p hp => ?_, I.hok.laidN (fun _ _ q => q) na new, I.len⟩
  · rw [upd_ne (ne0 b u e)]
    exact I.base.free b u e n q
  · have q := I.base.tups b xs e
    rw [upd_ne (ne_of_none q na)]
    exact q
  · have q := I.base.frzs b u v e
    rw [upd_ne (ne_of_none q na)]
    exact q
  · obtain ⟨m, q⟩ := I.base.tbls b ps e
    exact ⟨m, by rw [upd_ne (ne_of_none q na)]; exact q⟩
  · rw [upd_ne neL]
    exact I.free
  · rw [upd_ne (neC x c e)]
    exact I.freeC x c e
  · obtain ⟨e, n, r⟩ := I.pin p hp
    exact ⟨e, by rw [upd_ne (neP p hp)]; exact n, r⟩
end
/-- what the clause wishes: an exception of the class at C, with its dict; it is tracked from then on -/
def wKeep (K : PySem.W.Frag) (c : Value) (C : Addr) (i : Nat) (ts : Addr → TS) (D : Ends) : WX := fun cls d σ H =>
  cls = .ref C ∧ PySem.W.exmOne K (.ref C) c = some true ∧ ∃ dd, d = some dd ∧ ∀ a, H a = none →
    ts a { nx := fun σ' H' => D.nx (σ'.set i none) H', rt := D.rt, bk := fun σ' H' => D.bk (σ'.set i none) H', ct := fun σ' H' => D.ct (σ'.set i none) H' } (σ.set i (some (.ref a))) (upd H a (excT a C dd))
section
variable {X : Cx} {x n : Str} {c : Value} {C : Addr} {i : Nat} {body suite : List Stmt} {b₀ : Stmt} {np pos pos' : Pos} {tb : WX → TS} {ts : Addr → TS}
theorem ps_try_keep (hs : X.stack = X.env :: X.outer) (hf : X.env.frame = some X.env.locals) (hex : X.ex = []) (hN : X.N.Nodup) (hi : X.N[i]? = some n) (hln : X.env.kindOf n = some .local) (hc : Names X x c)
    (hb : ∀ (W : WX) (pn : List (Addr × Obj)) (xe : Value → Shared → Prop), Takes (X.tr pn xe) W → PassesOwn (model X.prog X.w) X.A X.env xe → PSs (X.tr pn xe) body (tb W))
    (hsu : ∀ (a : Addr) (pn : List (Addr × Obj)), PSs (X.suite a pn) (b₀ :: suite) (ts a)) :
    PS X (.Try body [.ExceptHandler (some (.Name x np)) (some n) (b₀ :: suite) pos'] [] [] pos) (fun D σ H => tb (wKeep X.K c C i ts D) D σ H) := by
  refine ⟨fun pins s σ H D I h => ?_⟩
  have ok := I.ok
  have hfr : X.A.frames = some (X.env :: X.outer) := by rw [ok.frames, hs]
  refine wpAny_Try_except (wpAny_mono ((hb (wKeep X.K c C i ts D) (X.pn ++ pins) (fun e s₁ => wpAny (model X.prog X.w) X.A (noteFrame e X.env) (fun _ s₂ => wpAny (model X.prog X.w) X.A (setFlight e none) (fun _ s₃ =>
    wpAny (model X.prog X.w) X.A (handleBy e X.env [.ExceptHandler (some (.Name x np)) (some n) (b₀ :: suite) pos']) (SP X pins D) X.xe s₃) X.xe s₂) X.xe s₁) (fun u t hu => ?_) PassesOwn.looking).run [] s σ H D (I.toTry _) h) (fun f t hsp => ?_) (fun _ _ he => he))
  · -- it is caught
    obtain ⟨a, B, sI, pins', τ, H', cls, d, rfl, J', nb, up, sky, na, os, ag, rfl, hmatch, dd, rfl, hyes⟩ := hu
    have J : Inv X pins τ H' sI := J'.ofTry ok
    rw [show (X.tr (X.pn ++ pins) _).stack = X.stack from rfl, hs] at sky
    show wpAny (model X.prog X.w) X.A (noteFrame (.ref a) X.env) _ _ _
    refine Sky.land Zc.steady hfr hf sky fun h3 fl3 up3 => ?_
    have J3 : Inv X pins τ H' { t with heap := h3 } := J.landed nb fl3.1 (up.trans up3) os ag
    obtain ⟨oe3, vs3, he3, hz3, hd3⟩ := fl3.there
    have notIn : a ∉ frs (X.env :: X.outer) := fun hm => by
      obtain ⟨_, o2, e2, hnf⟩ := fl3.2.2.1.mem hm
      rw [he3] at e2
      cases e2
      exact hnf _ hd3
    have nL : a ≠ X.env.locals := fun z => notIn (List.mem_filterMap.mpr ⟨X.env, List.mem_cons_self, by rw [hf, z]⟩)
    have nF : a ∉ X.fs := fun hm => by
      obtain ⟨e, he, q⟩ := List.mem_filterMap.mp hm
      exact notIn (List.mem_filterMap.mpr ⟨e, List.mem_cons_of_mem _ he, q⟩)
    have h0 : sI.heap.get? a = none := by
      cases q : sI.heap.get? a with
      | none => rfl
      | some o =>
        have z := nb a o q (by rw [show (X.tr (X.pn ++ pins) _).stack = X.stack from rfl, hs]; exact notIn)
        rw [fl3.2.1] at z
        cases z
    have S3 := J3.suite he3 hd3 na nL nF
    refine wpAny_handleBy_cons (codeAny_handlers_test ?_) (by intro q; cases q)
    have LT : PySem.W.Looks (model X.prog X.w) h3 (typeOf (.ref a)) (.ref C) := fun A Q E s k q => wpAny_typeOf_ref (k _ _ he3) (by rw [hz3.1]; exact q)
    have LM := PySem.W.exm_one (M := model X.prog X.w) (J3.kIn) LT hmatch
    have test : ∀ {Q : Value → Shared → Prop} {E : Value → Shared → Prop}, Q c { t with heap := h3 } → wpAny (model X.prog X.w) (X.A.mark (some (.ref a))) (eval (.Name x np) X.env) Q E { t with heap := h3 } := fun {Q E} q => by
      obtain ⟨hg, hdbg, hm | ⟨hm, hv, hnn⟩⟩ := hc
      · exact ld_glob (X := X.suite a ((a, oe3) :: (X.pn ++ pins))) S3 hg hm q hdbg
      · exact ld_blt (X := X.suite a ((a, oe3) :: (X.pn ++ pins))) S3 hg hm hv q hnn hdbg
    refine test (LM.here (codeAny_handlers_suite_as (HandSPX.lands_againZ fl3 fun h4 fl4 up4 => ?_)))
    have J4 : Inv X pins τ H' { t with heap := h4 } := J.landed nb fl4.1 ((up.trans up3).trans up4) os ag
    obtain ⟨oe4, vs4, he4, hz4, hd4⟩ := fl4.there
    have T4 : Inv X pins τ (upd H' a (excT a C dd)) { t with heap := h4 } := trackNow J4 J h0 na (excT_ok he4 hz4.1 hz4.2 hd4) hex
    have S4 : Inv (X.suite a (X.pn ++ pins)) [] τ (upd H' a (excT a C dd)) { t with heap := h4 } :=
      ⟨T4.ok.suite _ _, T4.os, T4.bare, T4.base, T4.loc, T4.cell, T4.free, T4.freeC, fun p hp => T4.pin p (by rw [List.append_nil] at hp; exact hp), T4.hok, T4.len⟩
    refine store_ok (X := X.suite a (X.pn ++ pins)) (v := .ref a) S4 hN hi (.inl hln) rfl (fun s5 S5 => ?_) (.inr hln)
    have back : ∀ {σ6 : L2.St} {H6 : Hp} {s6 : Shared}, Inv (X.suite a (X.pn ++ pins)) [] σ6 H6 s6 → Inv X pins σ6 H6 s6 := fun {σ6 H6 s6} S => ⟨ok, S.os, S.bare, S.base, S.loc, S.cell, S.free, S.freeC, fun p hp => S.pin p (by rw [List.append_nil]; exact hp), S.hok, S.len⟩
    refine wpAny_mono ((hsu a (X.pn ++ pins)).run [] s5 _ _ _ S5 (hyes a na)) (fun f s6 hsp => ?_) (fun _ _ z => False.elim z)
    have end_ : ∀ {σ6 : L2.St} {H6 : Hp} {Q : Shared → Prop}, Inv (X.suite a (X.pn ++ pins)) [] σ6 H6 s6 → (∀ s7, Inv X pins (σ6.set i none) H6 s7 → Q s7) →
        wpAny (model X.prog X.w) X.A (do bindName X.env n .none; unbindBehindTheSuite X.env n pos') (fun _ s7 => Q s7) X.xe s6 := fun {σ6 H6 Q} S6 hq => gone_ok (back S6) hN hi hln hq
    cases f with
    | next =>
      obtain ⟨σ6, H6, S6, q6⟩ := hsp
      exact end_ S6 fun s7 J7 => ⟨_, _, J7, q6⟩
    | brk =>
      obtain ⟨σ6, H6, S6, q6⟩ := hsp
      exact end_ S6 fun s7 J7 => ⟨_, _, J7, q6⟩
    | cont =>
      obtain ⟨σ6, H6, S6, q6⟩ := hsp
      exact end_ S6 fun s7 J7 => ⟨_, _, J7, q6⟩
    | ret u =>
      obtain ⟨v6, σ6, H6, S6, r6, q6⟩ := hsp
      exact end_ S6 fun s7 J7 => ⟨_, _, _, J7, r6, q6⟩
  · cases f with
    | next =>
      obtain ⟨σ', H', J', q⟩ := hsp
      exact wpAny_execs_nil ⟨σ', H', J'.ofTry ok, q⟩
    | brk =>
      obtain ⟨σ', H', J', q⟩ := hsp
      exact ⟨σ', H', J'.ofTry ok, q⟩
    | cont =>
      obtain ⟨σ', H', J', q⟩ := hsp
      exact ⟨σ', H', J'.ofTry ok, q⟩
    | ret u =>
      obtain ⟨v, σ', H', J', r, q⟩ := hsp
      exact ⟨v, σ', H', J'.ofTry ok, r, q⟩
/-- its field -/
def tXk (K : PySem.W.Frag) (n : Str) (te : TE) : TE := fun σ H Q => te σ H fun x H1 => ∃ (a C dd : Addr) (fs : List (Str × V)) (v : V), x = .ref a ∧ H1 a = some (excT a C dd) ∧ XfC K C ∧ PySem.W.findIn K (.ref C) n = some none ∧ H1 dd = some (.xd fs) ∧ fs.lookup n = some v ∧ Q v H1
theorem pe_xk {e : Expr} {te : TE} (he : PE X e te) (hb : attributeBase e n X.env (eval e X.env) = eval e X.env := by rfl) : PE X (.Attribute e n pos) (tXk X.K n te) := by
  refine ⟨fun pins s σ H Q I h => ?_⟩
  refine attr_of hb (thn (he.run pins s σ H _ I h) fun u s1 ⟨y, H1, I1, ry, a, C, dd, fs, v, ey, ea, T, hno, ed, l, q⟩ => ?_)
  subst ey
  obtain rfl : u = Value.ref a := ry
  obtain ⟨⟨oe, vs, ha, hcl, hdict, hdata⟩, _, _⟩ := I1.hok a _ ea
  obtain ⟨mA, hns, hrel⟩ := (show ObjOk X.prog X.w H1 s1.heap dd (.xd fs) from I1.hok dd _ ed)
  obtain ⟨od, ho, hl⟩ := lookIn_ns hns
  obtain ⟨u, hu, ru⟩ := RelO.some_of (v := v) (o := mA n) (by rw [← l]; exact hrel n)
  have J : PySem.W.InstAt s1.heap a oe C (some od) := ⟨ha, hcl, by unfold PySem.W.notCls; rw [hdata] <;> rfl, by rw [hdict]; exact ho⟩
  exact HandSPX.exc_get I1.kIn J T.ga T.gg T.exC (PySem.W.findObj_own T.hdC hno rfl (by rw [hl, hu])) (handed_of ru) ⟨v, H1, I1.tok _, ru, q⟩
end
end WC
namespace WC
open PySem PySem.Spec PyProof.Rows L2
section
variable {P : Program} {w : World} {K : PySem.W.Frag} {mg : Str → Option Value} {base : Heap}
/-! ### _law_ring -/
def sp_L_ring (K : PySem.W.Frag) : Sp := fun vs H Q _ => ∃ (ev wv lv : V) (e : Ev) (way words : List PP), vs = [ev, wv, lv] ∧ Dp K H ev (dE e) ∧ Dp K H wv (dTP way) ∧ Dp K H lv (dLP words) ∧ WayOk e way ∧ e.whyNot way = none ∧ words.length ≤ 1000 ∧
  (∀ found, ¬ Ord (e.pairs way words) e.guests found) ∧ ∀ H' r ring, Same H H' → TupK H' r (ring.map V.str) → RingOf (e.pairs way words) ring → Q (.ref r) H'
theorem sc_L_ring : FnScope ["_law_night_here", "_law_way", "_law_said_here", "_law_caught", "error"] ["_law_night_here", "_law_way", "_law_said_here"] (defScope s_L_ring) := ⟨rfl, rfl, rfl, by decide +kernel, rfl, by decide +kernel, by decide +kernel⟩
theorem ok_L_ring (T : Tx K mg) : FnOk P w K mg base CX0 9 (He.ga K "_law_ring") T.fd_L_ring ["_law_night_here", "_law_way", "_law_said_here"] (sp_L_ring K) := by
  refine T.F_L_ring.ok sc_L_ring (fun vs H Q E h => ?_) (fun cdv A outer s H vs Q E hr h => ?_)
  · obtain ⟨ev, wv, lv, e, way, words, rfl, _⟩ := h
    rfl
  obtain ⟨ev, wv, lv, e, way, words, rfl, hE, hW, hL, ok, why, h2, hno, k⟩ := h
  refine ⟨_, PSs.nox (pss_cons (ps_set (i := 3) sc_L_ring.nd rfl (Or.inl rfl) pe_non)
    (pss_cons (ps_try_keep (C := aRing K) (i := 4) rfl rfl rfl sc_L_ring.nd rfl rfl ⟨by rfl, rfl, .inl T.g_Ring⟩
      (fun W pn xe tk hp => pss_one (ps_expr (pe_callSD (ok_order_by T) (hr.mono (by decide)) (by rfl) T.g_order_by T.F_order_by.kp T.b_order_by .nil (L2.passAt tk) (pa_cons (pv 0) (pa_cons (pv 1) (pa_cons (pv 2) pa_nil))))))
      (fun a pn => pss_one (ps_set (i := 3) sc_L_ring.nd rfl (Or.inl rfl) (pv 4))))
    (pss_one (ps_ret (pe_ifExp (pt_cmpR op_isN (pv 3) pe_non (nomark _)) pe_non (pe_xk (pv 3))))))), ?_⟩
  refine ⟨_, rfl, _, rfl, _, rfl, _, _, _, e, way, words, rfl, hE, hW, hL, ok, why, h2, fun H1 p found _ _ ho => absurd ho (hno found), fun H1 d r ring s1 hd hr1 hring => ?_⟩
  refine ⟨rfl, T.te, d, rfl, fun a ha => ?_⟩
  have s2 := s1.new ha (o := excT a (aRing K) d)
  refine ⟨_, rfl, _, rfl, rfl, _, rfl, ?_⟩
  rw [decide_eq_false (by intro z; cases z)]
  refine iteF ⟨_, rfl, a, aRing K, d, [("what", V.ref r)], .ref r, rfl, upd_same, T.xf, T.noW, ?_, rfl, k _ r ring s2 (hr1.same (same_new ha)) hring⟩
  rw [upd_ne (ne_of_none hd ha)]
  exact hd
end
end WC
namespace WC
open PySem PySem.Spec PyProof.Rows L2
/-- a tuple of at most so many texts -/
def Th (H : Hp) (v : V) (n : Nat) : Prop := ∃ (p : Addr) (ts : List Str), v = .ref p ∧ TupK H p (ts.map V.str) ∧ ts.length ≤ n
theorem Th.same {H H' : Hp} {v : V} {n : Nat} (h : Th H v n) (s : Same H H') : Th H' v n := let ⟨p, ts, e, t, l⟩ := h; ⟨p, ts, e, t.same s, l⟩
theorem Th.mono {H : Hp} {v : V} {n m : Nat} (h : Th H v n) (l : n ≤ m) : Th H v m := let ⟨p, ts, e, t, l2⟩ := h; ⟨p, ts, e, t, Nat.le_trans l2 l⟩
section
variable {K : PySem.W.Frag} {H : Hp} {Q : VK} {x y : V} {n m : Nat} {lo hi : Option Int}
theorem rd_thS (h : Th H x n) (k : ∀ H' v, Same H H' → Th H' v n → Q v H') : rSlF K x lo hi H Q := by
  obtain ⟨p, ts, rfl, t, l⟩ := h
  refine rd_slF t fun H' q s tq => k H' _ s ⟨q, (ts.drop (HT.sIx ts.length 0 lo)).take (HT.sIx ts.length ts.length hi - HT.sIx ts.length 0 lo), rfl, ?_, ?_⟩
  · unfold cutV at tq
    rw [List.length_map, ← List.map_drop, ← List.map_take] at tq
    exact tq
  · rw [List.length_take, List.length_drop]
    omega
theorem rd_thC (h1 : Th H x n) (h2 : Th H y m) (hz : n + m ≤ 1000) (k : ∀ H' v, Same H H' → Th H' v (n + m) → Q v H') : rCatF K x y H Q := by
  obtain ⟨p, ts, rfl, t, l⟩ := h1
  obtain ⟨q, us, rfl, u, l2⟩ := h2
  refine rd_catF t u (by rw [List.length_map, List.length_map]; unfold sizeLine; omega) fun H' r s tr => k H' _ s ⟨r, ts ++ us, rfl, ?_, ?_⟩
  · rw [List.map_append]
    exact tr
  · rw [List.length_append]
    omega
theorem rd_thR (h : Th H x n) (k : ∀ H' v, Same H H' → Th H' v n → Q v H') : ∃ a xs, x = .ref a ∧ SqT K H a xs ∧ NewT H Q xs.reverse := by
  obtain ⟨p, ts, rfl, t, l⟩ := h
  refine ⟨p, _, rfl, t.sqt, NewT.mk fun q H' s tq => k H' _ s ⟨q, ts.reverse, rfl, ?_, by rw [List.length_reverse]; exact l⟩⟩
  rw [List.map_reverse]
  exact tq
end
def rvP (p : PP) : PP := (p.2, p.1)
section
variable {P : Program} {w : World} {K : PySem.W.Frag} {mg : Str → Option Value} {base : Heap}
/-! ### _law_ring_right -/
def sp_L_ring_right (K : PySem.W.Frag) : Sp := fun vs H Q _ => ∃ (b : Addr) (c : Int) (ev wv lv uv : V) (e : Ev) (way words sure : List PP), vs = [.ref b, ev, wv, lv, uv] ∧ BoxAt H b c ∧ c ≤ 900000000 ∧ Dp K H ev (dE e) ∧ Dp K H wv (dTP way) ∧ LL K H lv (words.map dP) ∧ Dp K H uv (dLP sure) ∧
  WayOk e way ∧ e.whyNot way = none ∧ words.length ≤ 900 ∧ sure ≠ [] ∧ sure.length ≤ 10000 ∧ (∀ p ∈ sure, (∀ found, ¬ Ord (e.pairs way (words ++ [rvP p])) e.guests found) ∧
    ∀ ring, RingOf (e.pairs way (words ++ [rvP p])) ring → ringB ring (e.pairs way (words ++ [rvP p])) = true ∧ ring.length ≤ 30) ∧
  ∀ H', But b H H' → BoxAt H' b (c + 1) → Q (.bl true) H'
theorem sc_L_ring_right : FnScope ["_law_box_here", "_law_night_here", "_law_way", "_law_said_here", "_law_sure", "_law_pair", "_law_more", "_law_told", "_law_pairs", "_law_others", "_law_things", "_law_thing", "_law_guest"] ["_law_box_here", "_law_night_here", "_law_way", "_law_said_here", "_law_sure"] (defScope s_L_ring_right) := ⟨rfl, rfl, rfl, by decide +kernel, rfl, by decide +kernel, by decide +kernel⟩
theorem ok_L_ring_right (T : Tx K mg) : FnOk P w K mg base CX0 10 (He.ga K "_law_ring_right") T.fd_L_ring_right ["_law_box_here", "_law_night_here", "_law_way", "_law_said_here", "_law_sure"] (sp_L_ring_right K) := by
  refine T.F_L_ring_right.ok sc_L_ring_right (fun vs H Q E h => ?_) (fun cdv A outer s H vs Q E hr h => ?_)
  · obtain ⟨b, c, ev, wv, lv, uv, e, way, words, sure, rfl, _⟩ := h
    rfl
  obtain ⟨b, c, ev, wv, lv, uv, e, way, words, sure, rfl, hb, hc, hE, hW, hL, hU, ok, why, wl, sne, sl, hsure, k⟩ := h
  refine ⟨_, PSs.nox (pss_cons (ps_set (i := 5) sc_L_ring_right.nd rfl (Or.inl rfl) (pe_call (ok_L_of T) (hr.mono (by decide)) rfl T.g_L_of T.F_L_of.kp T.b_L_of .nil pass0 (pa_cons (pv 0) (pa_cons (pv 4) pa_nil))))
      (pss_cons (ps_set (i := 6) sc_L_ring_right.nd rfl (Or.inl rfl) (pe_op op_cat (pv 3) (pe_lst (pa_cons (pe_revT (pv 5)) pa_nil))))
      (pss_cons (ps_asg (pe_tup (pa_cons (pe_call (ok_L_ring T) (hr.mono (by decide)) rfl T.g_L_ring T.F_L_ring.kp T.b_L_ring .nil pass0 (pa_cons (pv 1) (pa_cons (pv 2) (pa_cons (pv 6) pa_nil)))) (pa_cons (pe_op op_cat (pe_call (ok_needs T) (hr.mono (by decide)) rfl T.g_needs T.F_needs.kp T.b_needs .nil pass0 (pa_cons (pv 1) (pa_cons (pv 2) pa_nil))) (pv 6)) pa_nil))) (pg_tup rfl (pgs_cons (pg_name (i := 7) sc_L_ring_right.nd rfl (Or.inr rfl)) (pgs_cons (pg_name (i := 8) sc_L_ring_right.nd rfl (Or.inl rfl)) pgs_nil))))
      (pss_cons (ps_if (PW.pt (pw_or (pt_cmpR op_isN (pv 7) pe_non (nomark _)) (pw_or1 (pt_not (pt_val (pe_call (ok_L_is_ring T) (hr.mono (by decide)) rfl T.g_L_is_ring T.F_L_is_ring.kp T.b_L_is_ring .nil pass0 (pa_cons (pv 7) (pa_cons (pv 8) pa_nil)))))))) (pss_one (ps_ret pe_bl)) pss_nil)
      (pss_cons (ps_set (i := 9) sc_L_ring_right.nd rfl (Or.inl rfl) (pe_callTy call_tupleF (by rfl) T.n_tuple (by decide +kernel) (pa_cons (pe_op op_cat (pe_lc (own := [("_law_guest", 12)]) (g := gName 12) rfl sc_L_ring_right.nd (pi_tup (pe_ix ix_tup (pv 1) pe_int (fun _ _ => rfl))) (blkOk_by (own := [("_law_guest", 12)]) (N := ["_law_box_here", "_law_night_here", "_law_way", "_law_said_here", "_law_sure", "_law_pair", "_law_more", "_law_told", "_law_pairs", "_law_others", "_law_things", "_law_thing", "_law_guest"]) (sc := defScope s_L_ring_right) (by decide +kernel)) (fun _ _ _ _ _ => (pg_name (i := 12) sc_L_ring_right.nd rfl (Or.inl rfl))) (fun _ _ _ _ _ => pts_one (pt_cmpR (op_ninK K rfl) (pv 12) (pv 7) rfl)) (fun _ _ _ _ _ => (pv 12))) (pe_lst (pa_cons pe_str pa_nil))) pa_nil)))
      (pss_cons (ps_set (i := 10) sc_L_ring_right.nd rfl (Or.inl rfl) (pe_lst (pa_cons (pv 7) (pa_cons (pe_slice sl_tupF (pv 7) (po_some pe_int) po_none) (pa_cons (pe_slice sl_tupF (pv 7) po_none (po_some (pe_un un_neg pe_int))) (pa_cons (pe_revF (pv 7)) (pa_cons (pe_op op_catF (pe_slice sl_tupF (pv 7) (po_some pe_int) po_none) (pe_slice sl_tupF (pv 7) po_none (po_some pe_int))) (pa_cons (pe_op op_catF (pv 7) (pe_slice sl_tupF (pv 7) po_none (po_some pe_int))) (pa_cons (pe_op op_catF (pv 7) (pe_slice sl_tupF (pv 9) po_none (po_some pe_int))) pa_nil)))))))))
      (pss_cons (ps_set (i := 10) sc_L_ring_right.nd rfl (Or.inl rfl) (pe_op op_cat (pv 10) (pe_lst (pa_cons (pe_op op_catF (pe_slice sl_tupF (pv 7) po_none (po_some (pe_un un_neg pe_int))) (pe_slice sl_tupF (pv 9) po_none (po_some pe_int))) (pa_cons (pe_op op_catF (pe_op op_catF (pe_slice sl_tupF (pv 7) po_none (po_some pe_int)) (pe_slice sl_tupF (pv 9) po_none (po_some pe_int))) (pe_slice sl_tupF (pv 7) (po_some pe_int) po_none)) (pa_cons (pe_slice sl_tupF (pv 9) po_none (po_some pe_int)) pa_nil))))))
      (pss_cons (ps_for PassesOwn.never rfl (pi_list (pv 10)) (pg_name (i := 11) sc_L_ring_right.nd rfl (Or.inl rfl)) (pss_one (ps_if (pt_cmpR op_ne (pe_callB call_repr_bl (by rfl) T.n_repr (by decide +kernel) (pa_cons (pe_call (ok_shows_ring T) (hr.mono (by decide)) rfl T.g_shows_ring T.F_shows_ring.kp T.b_shows_ring .nil pass0 (pa_cons (pv 1) (pa_cons (pv 2) (pa_cons (pv 6) (pa_cons (pv 11) pa_nil))))) pa_nil)) (pe_callB call_repr_bl (by rfl) T.n_repr (by decide +kernel) (pa_cons (pe_call (ok_L_is_ring T) (hr.mono (by decide)) rfl T.g_L_is_ring T.F_L_is_ring.kp T.b_L_is_ring .nil pass0 (pa_cons (pv 11) (pa_cons (pv 8) pa_nil))) pa_nil)) (nomark _)) (pss_one (ps_ret pe_bl)) pss_nil)))
      (pss_one (ps_ret pe_bl)))))))))), ?_⟩
  refine ⟨_, rfl, _, rfl, b, c, uv, sure, rfl, hb, by omega, hU, sne, sl, fun H1 pv1 p but1 hb1 hp hpv => ?_⟩
  obtain ⟨hno, hring⟩ := hsure p hp
  have inE : intless (dE e) = true := by
    show intlessAll [dT e.rack, dT e.guests, dT e.lost] = true
    show (intlessAll (e.rack.map PyData.str) && (intlessAll (e.guests.map PyData.str) && (intlessAll (e.lost.map PyData.str) && true))) = true
    rw [intless_strs, intless_strs, intless_strs]
    rfl
  have hE1 := Dp.but hb.box but1 _ inE hE
  have hW1 : Dp K H1 wv (dTP way) := Dp.but hb.box but1 _ (intless_dPs way) hW
  have hL1 := hL.but hb.box but1 (intless_dPs words)
  obtain ⟨pa, rfl, hpa⟩ := dP_at hpv
  -- one more word, turned
  refine ⟨_, rfl, _, rfl, pa, _, rfl, hpa, fun pb hpb => ⟨by unfold sizeLine; simp, fun ll hll => ?_⟩⟩
  have s2 := same_new hpb (o := .tup ([V.str p.1, .str p.2]).reverse)
  have s3 := same_new hll (o := .lst [V.ref pb])
  have hL3 := (hL1.same s2).same s3
  have hpb3 : SqT K (upd (upd H1 pb (.tup ([V.str p.1, .str p.2]).reverse)) ll (.lst [V.ref pb])) pb [.str p.2, .str p.1] := s3.sqt (.inl (.inl upd_same))
  have hll3 : LL K (upd (upd H1 pb (.tup ([V.str p.1, .str p.2]).reverse)) ll (.lst [V.ref pb])) (.ref ll) ([rvP p].map dP) := ⟨ll, [.ref pb], rfl, upd_same, .cons (dP_of hpb3) .nil⟩
  refine rd_cat hL3 hll3 (by simp; omega) fun H4 mv s4 hmv => ?_
  rw [← List.map_append] at hmv
  have s14 := (s2.trans s3).trans s4
  have hE4 := Dp.same s14 _ hE1
  have hW4 := Dp.same s14 _ hW1
  have mlen : (words ++ [rvP p]).length ≤ 901 := by rw [List.length_append]; simp; omega
  have but4 := but1.trans (s14.but b)
  have hb4 := hb1.same s14
  generalize words ++ [rvP p] = more at hmv mlen hno hring
  clear hL3 hpb3 hll3 s2 s3 s4 s14 hpb hll
  refine ⟨_, rfl, _, rfl, _, rfl, _, _, _, e, way, more, rfl, hE4, hW4, hmv.dp, ok, why, by omega, hno, fun H5 r ring s5 hr5 hrg => ?_⟩
  refine ⟨_, rfl, _, rfl, _, _, e, way, rfl, Dp.same s5 _ hE4, Dp.same s5 _ hW4, ok, why, fun H6 v6 s6 hv6 => ⟨_, rfl, rd_cat hv6 ((hmv.same s5).same s6) (by have := needs_len ok; simp; omega) fun H7 pv7 s7 hpv7 => ⟨sz2, fun t ht => ?_⟩⟩⟩
  rw [← List.map_append] at hpv7
  have hpv7' : LL K H7 pv7 ((e.pairs way more).map dP) := hpv7
  have s8 := same_new ht (o := .tup [.ref r, pv7])
  refine ⟨t, _, rfl, .inl (.inl upd_same), rfl, _, _, rfl, _, _, rfl, rfl, ?_⟩
  have s48 := ((s5.trans s6).trans s7).trans s8
  have hT8 := ((hr5.same s6).same s7).same s8
  have hP8 := hpv7'.same s8
  have hE8 := Dp.same s48 _ hE4
  have hW8 := Dp.same s48 _ hW4
  have hM8 := hmv.same s48
  have but8 := but4.trans (s48.but b)
  have hb8 := hb4.same s48
  obtain ⟨rok, rl⟩ := hring ring hrg
  generalize (upd H7 t (.tup [.ref r, pv7])) = H8 at s8 s48 hT8 hP8 hE8 hW8 hM8 but8 hb8
  clear hpv7 hpv7' hv6 hno hring hrg
  -- it is a ring
  refine ⟨_, rfl, rfl, _, rfl, ?_⟩
  rw [decide_eq_false (by intro z; cases z)]
  refine iteF ⟨_, rfl, _, rfl, r, _, ring, e.pairs way more, rfl, hT8, hP8.dp, by omega, fun H9 s9 => ⟨_, rfl, ?_⟩⟩
  rw [rok]
  refine iteF ?_
  have hT9 := hT8.same s9
  obtain ⟨qe, ra, gb, lo, rfl, hqe, hra, hgb, hlo⟩ := dE_at (Dp.same s9 _ hE8)
  have gl := ok.guests
  refine ⟨_, rfl, qe, _, 1, _, rfl, rfl, hqe, rfl, gb, rfl, ⟨_, hgb⟩, fun D hD => ?_⟩
  refine lc_dat (K := K) e.guests (fun g => if !decide (g ∈ ring) then some (.str g) else none) (walkS e.guests) (fun p d h => ?_) (sz100 (by omega)) hD (fun H' z => z.sqt hgb) ?_ ?_
  · rw [some_if (p := fun g => !decide (g ∈ ring)) h]
    rfl
  · rintro i g u H6 _ W N eg s10 ⟨rfl, v, eu, rfl⟩ kW kN
    rw [eg] at eu
    cases eu
    refine ⟨rfl, _, rfl, _, rfl, rd_nin (.inr (hT9.same s10).sqt) ⟨_, rfl, ?_⟩⟩
    exact ite2 (fun y2 => ⟨_, rfl, kW _ _ _ (fun _ _ h => h) (by rw [if_pos y2]) (.str _)⟩) (fun y2 => kN _ (fun _ _ h => h) (by rw [if_neg y2]))
  · intro H10 zs s10 a1 a2
    have a3 := DpAll.of_strs (xs := e.guests.filter fun g => !decide (g ∈ ring)) (dL_filter a2)
    subst a3
    have fl : (e.guests.filter fun g => !decide (g ∈ ring)).length ≤ 100 := Nat.le_trans (List.length_filter_le _ _) gl
    generalize (e.guests.filter fun g => !decide (g ∈ ring)) = gs at a1 fl
    refine ⟨by unfold sizeLine; simp, fun M hM => ?_⟩
    have s11 := same_new hM (o := .lst [V.str "qqqqqqqq"])
    refine rd_cat2 (s11 _ _ a1) upd_same (by rw [List.length_map]; simp; omega) fun G H12 s12 hG eG => ?_
    refine ⟨G, _, rfl, SqL.of eG, NewT.mk fun ot H13 s13 hot => ?_⟩
    have s813 := (((s9.trans s10).trans s11).trans s12).trans s13
    have hO : Th H13 (.ref ot) 101 := ⟨ot, gs ++ [("qqqqqqqq" : Str)], rfl, by rw [List.map_append]; exact hot, by rw [List.length_append]; simp; omega⟩
    have hR : Th H13 (.ref r) 30 := ⟨r, ring, rfl, hT8.same s813, rl⟩
    refine ⟨_, rfl, _, rfl, 1, rfl, ?_⟩
    dsimp only [tNoPart]
    refine rd_thS hR fun I1 v1 t1 h1 => ⟨_, rfl, 1, rfl, -1, rfl, ?_⟩
    refine rd_thS (hR.same t1) fun I2 v2 t2 h2 => ⟨_, rfl, ?_⟩
    refine rd_thR ((hR.same t1).same t2) fun I3 v3 t3 h3 => ?_
    have hR3 := ((hR.same t1).same t2).same t3
    refine ⟨_, rfl, 1, rfl, ?_⟩
    dsimp only [tNoPart]
    refine rd_thS hR3 fun J4 w4 u4 g4 => ⟨_, rfl, 1, rfl, ?_⟩
    refine rd_thS (hR3.same u4) fun J5 w5 u5 g5 => rd_thC (g4.same u5) g5 (by omega) fun I4 v4 u6 h4 => ?_
    have t4 := (u4.trans u5).trans u6
    have hR4 := hR3.same t4
    refine ⟨_, rfl, _, rfl, 1, rfl, ?_⟩
    refine rd_thS hR4 fun J6 w6 u6 g6 => rd_thC (hR4.same u6) g6 (by omega) fun I5 v5 u7 h5 => ?_
    have t5 := u6.trans u7
    have hR5 := hR4.same t5
    have hO5 := ((((hO.same t1).same t2).same t3).same t4).same t5
    refine ⟨_, rfl, _, rfl, 1, rfl, ?_⟩
    refine rd_thS hO5 fun J8 w8 u8 g8 => rd_thC (hR5.same u8) g8 (by omega) fun I6 v6 u9 h6 => ?_
    have t6 := u8.trans u9
    have hR6 := hR5.same t6
    have hO6 := hO5.same t6
    refine ⟨by unfold sizeLine; simp, fun L1 hL1 => ?_⟩
    have t7 := same_new hL1 (o := .lst [V.ref r, v1, v2, v3, v4, v5, v6])
    have eL1 : (upd I6 L1 (.lst [V.ref r, v1, v2, v3, v4, v5, v6])) L1 = some (.lst [V.ref r, v1, v2, v3, v4, v5, v6]) := upd_same
    have hR7 := hR6.same t7
    have hO7 := hO6.same t7
    generalize (upd I6 L1 (.lst [V.ref r, v1, v2, v3, v4, v5, v6])) = I7 at t7 eL1 hR7 hO7
    -- three more
    refine ⟨_, rfl, _, rfl, 1, rfl, -1, rfl, ?_⟩
    refine rd_thS hR7 fun J1 w1 u1 g1 => ⟨_, rfl, 1, rfl, ?_⟩
    refine rd_thS (hO7.same u1) fun J2 w2 u2 g2 => rd_thC (g1.same u2) g2 (by omega) fun I8 v8 u3 h8 => ?_
    have t8 := (u1.trans u2).trans u3
    have hR8 := hR7.same t8
    have hO8 := hO7.same t8
    refine ⟨_, rfl, 1, rfl, ?_⟩
    refine rd_thS hR8 fun J1 w1 u1 g1 => ⟨_, rfl, 1, rfl, ?_⟩
    refine rd_thS (hO8.same u1) fun J2 w2 u2 g2 => rd_thC (g1.same u2) g2 (by omega) fun J3 w3 u3 g3 => ⟨_, rfl, 1, rfl, ?_⟩
    dsimp only [tNoPart]
    refine rd_thS (((hR8.same u1).same u2).same u3) fun J4 w4 u4 g4 => rd_thC (g3.same u4) g4 (by omega) fun I9 v9 u5 h9 => ?_
    have t9 := (((u1.trans u2).trans u3).trans u4).trans u5
    have hO9 := hO8.same t9
    refine ⟨_, rfl, 2, rfl, ?_⟩
    refine rd_thS hO9 fun I10 v10 t10 h10 => ?_
    refine ⟨by unfold sizeLine; simp, fun L2 hL2 => ?_⟩
    have t11 := same_new hL2 (o := .lst [v8, v9, v10])
    have t8_11 := ((t8.trans t9).trans t10).trans t11
    have t7_11 := t7.trans t8_11
    refine rd_cat2 (t8_11 _ _ eL1) upd_same (by simp) fun L3 I12 t12 hL3 eL3 => ?_
    have hR12 := (((hR7.same t8_11).same t12)).mono (show 30 ≤ 200 by decide)
    have tall : ∀ z ∈ [V.ref r, v1, v2, v3, v4, v5, v6] ++ [v8, v9, v10], Th I12 z 200 := by
      intro z hz
      have s6_12 := t7_11.trans t12
      have s5_12 := t6.trans s6_12
      have s4_12 := t5.trans s5_12
      have s3_12 := t4.trans s4_12
      have s2_12 := t3.trans s3_12
      have s1_12 := t2.trans s2_12
      have s11_12 := t11.trans t12
      have s10_12 := t10.trans s11_12
      have s9_12 := t9.trans s10_12
      simp only [List.cons_append, List.nil_append, List.mem_cons, List.not_mem_nil, or_false] at hz
      rcases hz with z1 | z1 | z1 | z1 | z1 | z1 | z1 | z1 | z1 | z1 <;> subst z1
      · exact hR12
      · exact (h1.same s1_12).mono (by decide)
      · exact (h2.same s2_12).mono (by decide)
      · exact (h3.same s3_12).mono (by decide)
      · exact (h4.same s4_12).mono (by decide)
      · exact (h5.same s5_12).mono (by decide)
      · exact (h6.same s6_12).mono (by decide)
      · exact (h8.same s9_12).mono (by decide)
      · exact (h9.same s10_12).mono (by decide)
      · exact (h10.same s11_12).mono (by decide)
    generalize [V.ref r, v1, v2, v3, v4, v5, v6] ++ [v8, v9, v10] = things at tall eL3
    have s13_12 := ((((((t1.trans t2).trans t3).trans t4).trans t5).trans t6).trans t7_11).trans t12
    have sX := s813.trans s13_12
    have hEX := Dp.same sX _ hE8
    have hWX := Dp.same sX _ hW8
    have hMX := hM8.same sX
    have hPX := hP8.same sX
    have butX := but8.trans (sX.but b)
    have hbX := hb8.same sX
    clear hL2 hL1 t11 t12 t10 t9 t8 t7 t6 t5 t4 t3 t2 t1 s13_12 t7_11 t8_11 s813 sX
    refine ⟨_, rfl, L3, rfl, ⟨_, SqL.of eL3⟩, ?_⟩
    refine for_it walk_list (fun i σ H' => Same I12 H' ∧ ∃ (c11 c12 : Option V), σ = [some (.ref b), some (.ref qe), some wv, some lv, some uv, some (.ref pa), some mv, some (.ref r), some pv7, some (.ref ot), some (.ref L3), c11, c12])
      ⟨fun _ _ h => h, _, _, rfl⟩ (fun i σ H' _ h => SqL.of (h.1 _ _ eL3)) ?_ ?_
    · rintro i x σ _ H14 hi ⟨s14, c11, c12, rfl⟩ ⟨rfl, ex⟩
      obtain ⟨tp, ts, rfl, htp, tsl⟩ := (tall x (List.mem_iff_getElem?.mpr ⟨i, ex⟩)).same s14
      refine ⟨_, rfl, _, rfl, _, rfl, _, rfl, _, _, _, tp, e, way, more, ts, rfl, Dp.same s14 _ hEX, Dp.same s14 _ hWX, (hMX.same s14).dp, htp, ok, why, by omega, tsl, fun H15 s15 => ?_⟩
      refine ⟨_, rfl, _, rfl, _, rfl, tp, _, ts, e.pairs way more, rfl, htp.same s15, ((hPX.same s14).same s15).dp, tsl, fun H16 s16 => ?_⟩
      refine ⟨_, rfl, rd_ne ⟨_, rfl, ?_⟩⟩
      rw [decide_eq_true rfl]
      exact iteF ⟨(s14.trans s15).trans s16, _, _, rfl⟩
    · rintro σ H14 ⟨s14, c11, c12, rfl⟩
      exact k _ (butX.trans (s14.but b)) (hbX.same s14)
end
end WC
namespace WC
open PySem PySem.Spec PyProof.Rows L2
/-- what is asked of one step -/
structure StepOk (e : Ev) (way : List PP) (row : List Str) (words ahead : List PP) : Prop where
  cl : ∀ p ∈ e.pairs way words, p.1 ∈ e.guests ∧ p.2 ∈ e.guests
  noring : ∀ ring, ¬ RingOf (e.pairs way words) ring
  ahead : ∀ p ∈ ahead, Reach (e.pairs way words) p.1 p.2
  rowm : ∀ g ∈ e.guests, g ∈ row
  inrow : ∀ a b, Reach (e.pairs way words) a b → row.idxOf a < row.idxOf b
  first : ∀ found, Ord (e.pairs way words) e.guests found → (∀ a b, Reach (e.pairs way words) a b → found.idxOf a < found.idxOf b) ∧ e.way found = way ∧ PySem.W.dataLt (dT row) (dT found) = false
  shown : (dLP words).shown.length ≤ sizeLine
  hi : e.guests.length ≤ 24
  len : e.rack.length = e.guests.length
theorem pairs_bound {gs : List Str} {ps : List PP} (nd : ps.Nodup) (h : ∀ p ∈ ps, p.1 ∈ gs ∧ p.2 ∈ gs) : ps.length ≤ gs.length * gs.length := by
  have h1 := nodup_len (m := gs.flatMap fun a => gs.map fun b => (a, b)) nd fun p hp => by
    obtain ⟨a, b⟩ := h p hp
    exact List.mem_flatMap.mpr ⟨p.1, a, List.mem_map.mpr ⟨p.2, b, rfl⟩⟩
  have h2 : ∀ l : List Str, (l.flatMap fun a => gs.map fun b => (a, b)).length = l.length * gs.length := fun l => by
    induction l with
    | nil => simp
    | cons x l ih => rw [List.flatMap_cons, List.length_append, ih, List.length_map, List.length_cons, Nat.succ_mul]; omega
  rw [h2] at h1
  exact h1
theorem alikeAll_S : ∀ xs ys : List Str, PySem.W.alikeAll (xs.map PyData.str) (ys.map PyData.str) = true
  | [], _ => by
    rw [List.map_nil, PySem.W.alikeAll]
  | x :: xs, [] => by
    rw [List.map_cons, List.map_nil, PySem.W.alikeAll]
  | x :: xs, y :: ys => by
    rw [List.map_cons, List.map_cons, PySem.W.alikeAll, alikeAll_S xs ys, PySem.W.alike]
    rfl
theorem alike_T (xs ys : List Str) : PySem.W.alike (dT xs) (dT ys) = true := by
  unfold dT
  rw [PySem.W.alike]
  exact alikeAll_S xs ys
theorem showable_strs : ∀ xs : List Str, PyData.showableAll (xs.map PyData.str) = true
  | [] => rfl
  | x :: xs => by
    show (PyData.showable (.str x) && PyData.showableAll (xs.map PyData.str)) = true
    rw [showable_strs xs]
    rfl
theorem showable_LP : ∀ ps : List PP, PyData.showableAll (ps.map dP) = true
  | [] => rfl
  | p :: ps => by
    show (PyData.showable (dP p) && PyData.showableAll (ps.map dP)) = true
    rw [showable_LP ps]
    rfl
theorem hasDict_LP : ∀ ps : List PP, PyData.hasDictAll (ps.map dP) = false
  | [] => rfl
  | p :: ps => by
    show (PyData.hasDict (dP p) || PyData.hasDictAll (ps.map dP)) = false
    rw [hasDict_LP ps]
    rfl
section
variable {P : Program} {w : World} {K : PySem.W.Frag} {mg : Str → Option Value} {base : Heap}
/-! ### _law_step -/
def sp_L_step (K : PySem.W.Frag) : Sp := fun vs H Q _ => ∃ (ev wv : V) (r : Addr) (lv av : V) (e : Ev) (way : List PP) (row : List Str) (words ahead : List PP), vs = [ev, wv, .ref r, lv, av] ∧ Dp K H ev (dE e) ∧ Dp K H wv (dTP way) ∧ TupK H r (row.map V.str) ∧
  LL K H lv (words.map dP) ∧ LL K H av (ahead.map dP) ∧ WayOk e way ∧ e.whyNot way = none ∧ words.length ≤ 900 ∧ ahead.length ≤ 1000 ∧ StepOk e way row words ahead ∧
  ∀ H' v (sure : List PP), Same H H' → LL K H' v (sure.map dP) → sure.Nodup → (∀ p, p ∈ sure ↔ Reach (e.pairs way words) p.1 p.2) → Q v H'
theorem sc_L_step : FnScope ["_law_night_here", "_law_way", "_law_row", "_law_said_here", "_law_ahead", "_law_kept", "_law_first", "_law_sure", "_law_pairs", "_law_pair"] ["_law_night_here", "_law_way", "_law_row", "_law_said_here", "_law_ahead"] (defScope s_L_step) := ⟨rfl, rfl, rfl, by decide +kernel, rfl, by decide +kernel, by decide +kernel⟩
theorem ok_L_step (T : Tx K mg) : FnOkG P w K mg base 10 (He.ga K "_law_step") T.fd_L_step ["_law_night_here", "_law_way", "_law_row", "_law_said_here", "_law_ahead"] (sp_L_step K) := by
  refine okG T.F_L_step sc_L_step (fun vs H Q E h => ?_) (fun cdv A outer s H vs Q E hg hr h => ?_)
  · obtain ⟨ev, wv, r, lv, av, e, way, row, words, ahead, rfl, _⟩ := h
    rfl
  obtain ⟨ev, wv, r, lv, av, e, way, row, words, ahead, rfl, hE, hW, hR, hL, hA, ok, why, wl, al, so, k⟩ := h
  refine ⟨_, PSs.nox (pss_cons (ps_set (i := 5) sc_L_step.nd rfl (Or.inl rfl) (pe_callB (call_reprD hg hr) (by rfl) T.n_repr (by decide +kernel) (pa_cons (pv 3) pa_nil)))
      (pss_cons (ps_asg (pe_tup (pa_cons (pe_call (ok_order_by T) (hr.mono (by decide)) rfl T.g_order_by T.F_order_by.kp T.b_order_by .nil passL (pa_cons (pv 0) (pa_cons (pv 1) (pa_cons (pv 3) pa_nil)))) (pa_cons (pe_call (ok_sure_pairs T) (hr.mono (by decide)) rfl T.g_sure_pairs T.F_sure_pairs.kp T.b_sure_pairs .nil pass0 (pa_cons (pv 0) (pa_cons (pv 1) (pa_cons (pv 3) pa_nil)))) pa_nil))) (pg_tup rfl (pgs_cons (pg_name (i := 6) sc_L_step.nd rfl (Or.inl rfl)) (pgs_cons (pg_name (i := 7) sc_L_step.nd rfl (Or.inr rfl)) pgs_nil))))
      (pss_cons (ps_set (i := 8) sc_L_step.nd rfl (Or.inl rfl) (pe_op op_cat (pe_op op_cat (pv 4) (pe_call (ok_needs T) (hr.mono (by decide)) rfl T.g_needs T.F_needs.kp T.b_needs .nil pass0 (pa_cons (pv 0) (pa_cons (pv 1) pa_nil)))) (pv 3)))
      (pss_cons (ps_if (PW.pt (pw_or (pt_cmpR op_ne (pe_callB (call_reprD hg hr) (by rfl) T.n_repr (by decide +kernel) (pa_cons (pv 3) pa_nil)) (pv 5) (nomark _)) (pw_or1 (pt_not (pt_val (pe_callB (cr_all rfl) (by rfl) T.n_all (by decide +kernel) (pa_cons (pe_lc (own := [("_law_pair", 9)]) (g := gName 9) rfl sc_L_step.nd (pi_list (pv 8)) (blkOk_by (own := [("_law_pair", 9)]) (N := ["_law_night_here", "_law_way", "_law_row", "_law_said_here", "_law_ahead", "_law_kept", "_law_first", "_law_sure", "_law_pairs", "_law_pair"]) (sc := defScope s_L_step) (by decide +kernel)) (fun _ _ _ _ _ => (pg_name (i := 9) sc_L_step.nd rfl (Or.inl rfl))) (fun _ _ _ _ _ => pts_nil) (fun _ _ _ _ _ => (pe_cmpR (op_inBK K rfl encP hr) (pv 9) (pv 7) rfl))) pa_nil))))))) (pss_one (ps_ret pe_non)) pss_nil)
      (pss_cons (ps_if (PW.pt (pw_or (pt_not (pt_val (pe_call (ok_L_has_all T) (hr.mono (by decide)) rfl T.g_L_has_all T.F_L_has_all.kp T.b_L_has_all .nil pass0 (pa_cons (pv 2) (pa_cons (pv 7) pa_nil))))) (pw_or (pt_not (pt_val (pe_call (ok_L_has_all T) (hr.mono (by decide)) rfl T.g_L_has_all T.F_L_has_all.kp T.b_L_has_all .nil pass0 (pa_cons (pv 6) (pa_cons (pv 7) pa_nil))))) (pw_or1 (pt_cmpR (op_neB encTP hr) (pe_call (ok_L_went T) (hr.mono (by decide)) rfl T.g_L_went T.F_L_went.kp T.b_L_went .nil pass0 (pa_cons (pv 0) (pa_cons (pv 6) pa_nil))) (pv 1) (nomark _)))))) (pss_one (ps_ret pe_non)) pss_nil)
      (pss_one (ps_ret (pe_ifExp (PW.pt (pw_and (pt_cmpR (op_leD hr) (pv 6) (pv 2) (nomark _)) (pw_and1 (pt_cmpR op_isBl (pe_call (ok_has_words T) (hr.mono (by decide)) rfl T.g_has_words T.F_has_words.kp T.b_has_words .nil pass0 (pa_cons (pv 6) (pa_cons (pv 3) pa_nil))) pe_bl (nomark _))))) (pv 7) pe_non)))))))), ?_⟩
  obtain ⟨ll, _, rfl, _⟩ := id hL
  have dlp := Nat.le_trans (encLP.depth words) (show 5 ≤ 60 by decide)
  refine ⟨_, rfl, ll, dLP words, rfl, hL.dp, showable_LP words, hasDict_LP words, dlp, so.shown, ?_⟩
  refine ⟨_, rfl, _, rfl, _, rfl, _, _, _, e, way, words, rfl, hE, hW, hL.dp, ok, why, by omega, fun H1 fp found s1 hf ho => ?_, fun H3 d r ring _ _ _ hr3 => absurd hr3 (so.noring ring)⟩
  obtain ⟨f1, f2, f3⟩ := so.first found ho
  have fnd := ho.nodup
  have fmem := ho.mem
  have gl := so.hi
  have flen : found.length ≤ 24 := by
    have := nodup_len fnd (fun x hx => (fmem x).mp hx)
    omega
  refine ⟨_, rfl, _, rfl, _, rfl, _, _, _, e, way, words, rfl, Dp.same s1 _ hE, Dp.same s1 _ hW, (hL.same s1).dp, ok, why, by omega, so.cl, so.noring, fun H2 sv sure s2 hs nds mems => ?_⟩
  have smem : ∀ p ∈ sure, p.1 ∈ e.guests ∧ p.2 ∈ e.guests := fun p hp => by
    have h := (mems p).mp hp
    obtain ⟨x, hx⟩ := h.last
    obtain ⟨q, hq, e1, _⟩ := reach_iff.mp h
    exact ⟨by rw [← e1]; exact (so.cl q hq).1, (so.cl _ hx).2⟩
  have slen : sure.length ≤ 1000 := by
    have h1 := pairs_bound nds smem
    have h2 : e.guests.length * e.guests.length ≤ 24 * 24 := Nat.mul_le_mul gl gl
    omega
  refine ⟨sz2, fun t ht => ⟨t, _, rfl, .inl (.inl upd_same), rfl, _, _, rfl, _, _, rfl, rfl, ?_⟩⟩
  have s3 := same_new ht (o := .tup [.ref fp, sv])
  have s03 := (s1.trans s2).trans s3
  have hf3 := (hf.same s2).same s3
  have hs3 := hs.same s3
  generalize (upd H2 t (.tup [.ref fp, sv])) = H3 at s3 s03 hf3 hs3
  -- all pairs are sure
  refine ⟨_, rfl, _, rfl, _, rfl, _, _, e, way, rfl, Dp.same s03 _ hE, Dp.same s03 _ hW, ok, why, fun H4 v4 s4 hv4 => rd_cat ((hA.same s03).same s4) hv4 (by have := needs_len ok; simp; omega) fun H5 v5 s5 hv5 => ⟨_, rfl, rd_cat hv5 (((hL.same s03).same s4).same s5) (by have := needs_len ok; simp; omega) fun H6 v6 s6 hv6 => ?_⟩⟩
  rw [← List.map_append, ← List.map_append] at hv6
  have s36 := (s4.trans s5).trans s6
  have s06 := s03.trans s36
  have hs6 := hs3.same s36
  refine ⟨_, rfl, ll, dLP words, rfl, (hL.same s06).dp, showable_LP words, hasDict_LP words, dlp, so.shown, _, rfl, rd_ne ⟨_, rfl, ?_⟩⟩
  rw [decide_eq_true rfl]
  refine iteF ?_
  obtain ⟨pl, ps, rfl, hpl, hps⟩ := hv6
  have hall : ∀ p ∈ (ahead ++ e.needs way) ++ words, p ∈ sure := fun p hp => by
    refine (mems p).mpr ?_
    rw [List.append_assoc] at hp
    rcases List.mem_append.mp hp with z | z
    · exact so.ahead p z
    · exact .one z
  have plen : ((ahead ++ e.needs way) ++ words).length ≤ 10000 := by
    rw [List.length_append, List.length_append]
    have := needs_len ok
    omega
  generalize (ahead ++ e.needs way) ++ words = allp at hps hall plen
  refine ⟨_, rfl, pl, rfl, ⟨_, SqL.of hpl⟩, fun D hD => ?_⟩
  refine lc_dat (K := K) allp (fun p => some (.bool true)) (walkLP hps) (fun _ d h => by cases h; rfl) (by unfold sizeLine; omega) hD (fun H' z => z.seq (SqL.of hpl)) ?_ ?_
  · rintro i p x H7 _ W N ep s7 ⟨rfl, ex⟩ kW kN
    have hp7 := Dp.same s7 _ (hps.at_map ep ex)
    refine ⟨rfl, _, rfl, _, rfl, rd_inB hp7 (hs6.same s7).dp ?_⟩
    rw [decide_eq_true (hall p (List.mem_iff_getElem?.mpr ⟨i, ep⟩))]
    exact kW _ _ _ (fun _ _ h => h) rfl (.bl true)
  · intro H7 zs s7 e1 e2
    have e3 := bools_fm (fun _ : PP => true) e2
    subst e3
    have all : ((allp.map fun _ => true).all id) = true := by simp
    refine ⟨D, _, rfl, SqL.of e1, _, rfl, ?_⟩
    rw [all]
    refine iteF ?_
    have s07 := s06.trans s7
    have hs7 := hs6.same s7
    have hf7 := (hf3.same s36).same s7
    -- every sure pair stands in the row, and in the first order
    have hw1 : hasWords row sure = true := List.all_eq_true.mpr fun p hp => decide_eq_true (so.inrow _ _ ((mems p).mp hp))
    have hw2 : hasWords found sure = true := List.all_eq_true.mpr fun p hp => decide_eq_true (f1 _ _ ((mems p).mp hp))
    have hw3 : hasWords found words = true := List.all_eq_true.mpr fun p hp => decide_eq_true (f1 _ _ (.one (List.mem_append_right _ hp)))
    refine ⟨_, rfl, _, rfl, r, _, row, sure, rfl, hR.same s07, hs7.dp, slen, fun p hp => ⟨so.rowm _ (smem p hp).1, so.rowm _ (smem p hp).2⟩, fun H8 s8 => ⟨_, rfl, ?_⟩⟩
    rw [hw1]
    refine iteF ⟨_, rfl, _, rfl, fp, _, found, sure, rfl, hf7.same s8, (hs7.same s8).dp, slen, fun p hp => ⟨(fmem _).mpr (smem p hp).1, (fmem _).mpr (smem p hp).2⟩, fun H9 s9 => ⟨_, rfl, ?_⟩⟩
    rw [hw2]
    have s79 := s8.trans s9
    have flr : found.length ≤ e.rack.length := by
      rw [so.len]
      exact nodup_len fnd fun x hx => (fmem x).mp hx
    refine iteF ⟨_, rfl, _, rfl, _, _, e, found, rfl, Dp.same (s07.trans s79) _ hE, dT_of (hf7.same s79).sqt, flr, ok.rack, fun H10 v10 s10 hv10 => ?_⟩
    have s7_10 := s79.trans s10
    refine ⟨_, rfl, rd_neB (a := e.way found) (b := way) hv10 (Dp.same (s07.trans s7_10) _ hW) ⟨_, rfl, ?_⟩⟩
    rw [decide_eq_true f2]
    refine iteF ?_
    have hf10 := hf7.same s7_10
    have hR10 := hR.same (s07.trans s7_10)
    refine ⟨_, rfl, _, rfl, dT found, dT row, dT_of hf10.sqt, dT_of hR10.sqt, ?_, (by intro z; cases z), Nat.le_trans (encT.depth found) (by decide), _, rfl, ?_⟩
    · exact alike_T found row
    rw [f3]
    refine iteT ⟨_, rfl, _, rfl, _, _, found, words, rfl, dT_of hf10.sqt, (hL.same (s07.trans s7_10)).dp, fnd, by omega, by omega, fun p hp => ?_, fun H11 s11 => ?_⟩
    · have h := so.cl p (List.mem_append_right _ hp)
      exact ⟨(fmem _).mpr h.1, (fmem _).mpr h.2⟩
    rw [hw3]
    refine ⟨true, true, rfl, rfl, _, rfl, iteT ⟨_, rfl, ?_⟩⟩
    exact k _ _ sure ((s07.trans s7_10).trans s11) ((hs7.same s7_10).same s11) nds mems
end
end WC
namespace WC
open PySem PySem.Spec PyProof.Rows L2
/-- what the mathematics has to say of an order -/
structure RowOk (e : Ev) (row : List Str) : Prop where
  ok : WayOk e (e.way row)
  why : e.whyNot (e.way row) = none
  due : e.fewest row = e.due row
  step : ∀ words ahead : List PP, (∀ p ∈ words, WordIn row p) → words.length ≤ 60 → (∀ p ∈ ahead, Reach (e.pairs (e.way row) words) p.1 p.2) → StepOk e (e.way row) row words ahead
  last : ∀ (words : List PP) (found : List Str), (∀ p ∈ words, WordIn row p) → (∀ p ∈ e.fewest row, p ∈ words) → Ord (e.pairs (e.way row) words) e.guests found → found = row
  count : ∀ words sure : List PP, (∀ p ∈ words, WordIn row p) → (∀ p ∈ e.fewest row, p ∈ words) → sure.Nodup → (∀ p, p ∈ sure ↔ Reach (e.pairs (e.way row) words) p.1 p.2) → sure.length = row.length * (row.length - 1) / 2
  ring : ∀ (words : List PP) (p : PP), (∀ p ∈ words, WordIn row p) → Reach (e.pairs (e.way row) words) p.1 p.2 → (∀ found, ¬ Ord (e.pairs (e.way row) (words ++ [rvP p])) e.guests found) ∧
    ∀ ring, RingOf (e.pairs (e.way row) (words ++ [rvP p])) ring → ringB ring (e.pairs (e.way row) (words ++ [rvP p])) = true ∧ ring.length ≤ 30
theorem sure_len {e : Ev} {way : List PP} {row : List Str} {words ahead sure : List PP} (so : StepOk e way row words ahead) (nds : sure.Nodup) (mems : ∀ p, p ∈ sure ↔ Reach (e.pairs way words) p.1 p.2) : sure.length ≤ 1000 := by
  have smem : ∀ p ∈ sure, p.1 ∈ e.guests ∧ p.2 ∈ e.guests := fun p hp => by
    have h := (mems p).mp hp
    obtain ⟨x, hx⟩ := h.last
    obtain ⟨q, hq, e1, _⟩ := reach_iff.mp h
    exact ⟨by rw [← e1]; exact (so.cl q hq).1, (so.cl _ hx).2⟩
  have h1 := pairs_bound nds smem
  have gl := so.hi
  have h2 : e.guests.length * e.guests.length ≤ 24 * 24 := Nat.mul_le_mul gl gl
  omega
theorem pairs_more {e : Ev} {way words more : List PP} : ∀ p ∈ e.pairs way words, p ∈ e.pairs way (words ++ more) := fun p h => by
  rcases List.mem_append.mp h with h | h
  · exact List.mem_append_left _ h
  · exact List.mem_append_right _ (List.mem_append_left _ h)
theorem fewest_in {e : Ev} {row : List Str} : ∀ p ∈ e.fewest row, WordIn row p := fun p hp => by
  obtain ⟨i, ei⟩ := List.mem_iff_getElem?.mp (List.mem_filter.mp hp).1
  obtain ⟨h1, h2⟩ := List.getElem?_zip_eq_some.mp ei
  rw [List.getElem?_drop] at h2
  exact ⟨i, 1 + i, by omega, h1, h2⟩
theorem fewest_len {e : Ev} {row : List Str} : (e.fewest row).length ≤ row.length := by
  refine Nat.le_trans (List.length_filter_le _ _) ?_
  rw [List.length_zip]
  omega
theorem intless_dE (e : Ev) : intless (dE e) = true := by
  show intlessAll [dT e.rack, dT e.guests, dT e.lost] = true
  show (intlessAll (e.rack.map PyData.str) && (intlessAll (e.guests.map PyData.str) && (intlessAll (e.lost.map PyData.str) && true))) = true
  rw [intless_strs, intless_strs, intless_strs]
  rfl
theorem intless_PP (p : PP) : intless (dP p) = true := rfl
theorem lless_PP (p : PP) : lless (dP p) = true := rfl
section
variable {P : Program} {w : World} {K : PySem.W.Frag} {mg : Str → Option Value} {base : Heap}
/-! ### _law_right -/
def sp_L_right (K : PySem.W.Frag) : Sp := fun vs H Q _ => ∃ (b : Addr) (c : Int), vs = [.ref b] ∧ BoxAt H b c ∧ c ≤ 700000000 ∧ ∀ H', But b H H' → BoxAt H' b (c + 10000) → Q (.bl true) H'
theorem sc_L_right : FnScope ["_law_box_here", "_law_night_here", "_law_row", "_law_way", "_law_said_here", "_law_sure", "_law_checks", "_law_pair", "_law_turn"] ["_law_box_here"] (defScope s_L_right) := ⟨rfl, rfl, rfl, by decide +kernel, rfl, by decide +kernel, by decide +kernel⟩
theorem ok_L_right (M : ∀ (e : Ev) (row : List Str), Good e → row.Perm e.guests → RowOk e row) (T : Tx K mg) : FnOkG P w K mg base 11 (He.ga K "_law_right") T.fd_L_right ["_law_box_here"] (sp_L_right K) := by
  refine okG T.F_L_right sc_L_right (fun vs H Q E h => ?_) (fun cdv A outer s H vs Q E hg hr h => ?_)
  · obtain ⟨b, c, rfl, _⟩ := h
    rfl
  obtain ⟨b, c, rfl, hb, hc, k⟩ := h
  refine ⟨_, PSs.nox (pss_cons (ps_set (i := 1) sc_L_right.nd rfl (Or.inr rfl) (pe_call (ok_L_night T) (hr.mono (by decide)) rfl T.g_L_night T.F_L_night.kp T.b_L_night .nil pass0 (pa_cons (pv 0) (pa_cons pe_int (pa_cons pe_int pa_nil)))))
      (pss_cons (ps_set (i := 2) sc_L_right.nd rfl (Or.inl rfl) (pe_callTy call_tupleF (by rfl) T.n_tuple (by decide +kernel) (pa_cons (pe_call (ok_L_strewn T) (hr.mono (by decide)) rfl T.g_L_strewn T.F_L_strewn.kp T.b_L_strewn .nil pass0 (pa_cons (pv 0) (pa_cons (pe_ix ix_tup (pv 1) pe_int (fun _ _ => rfl)) pa_nil))) pa_nil)))
      (pss_cons (ps_asg (pe_tup (pa_cons (pe_call (ok_L_went T) (hr.mono (by decide)) rfl T.g_L_went T.F_L_went.kp T.b_L_went .nil pass0 (pa_cons (pv 1) (pa_cons (pv 2) pa_nil))) (pa_cons (pe_lst pa_nil) (pa_cons (pe_lst pa_nil) (pa_cons pe_int pa_nil))))) (pg_tup rfl (pgs_cons (pg_name (i := 3) sc_L_right.nd rfl (Or.inr rfl)) (pgs_cons (pg_name (i := 4) sc_L_right.nd rfl (Or.inr rfl)) (pgs_cons (pg_name (i := 5) sc_L_right.nd rfl (Or.inr rfl)) (pgs_cons (pg_name (i := 6) sc_L_right.nd rfl (Or.inl rfl)) pgs_nil))))))
      (pss_cons (ps_if (pt_not (pt_val (pe_call (ok_L_fewest_right T) (hr.mono (by decide)) rfl T.g_L_fewest_right T.F_L_fewest_right.kp T.b_L_fewest_right .nil pass0 (pa_cons (pv 1) (pa_cons (pv 2) pa_nil))))) (pss_one (ps_ret pe_bl)) pss_nil)
      (pss_cons (ps_for PassesOwn.never rfl (pi_list (pe_call (ok_L_strewn T) (hr.mono (by decide)) rfl T.g_L_strewn T.F_L_strewn.kp T.b_L_strewn .nil pass0 (pa_cons (pv 0) (pa_cons (pe_call (ok_fewest_words T) (hr.mono (by decide)) rfl T.g_fewest_words T.F_fewest_words.kp T.b_fewest_words .nil pass0 (pa_cons (pv 1) (pa_cons (pv 2) pa_nil))) pa_nil)))) (pg_name (i := 7) sc_L_right.nd rfl (Or.inl rfl)) (pss_cons (ps_set (i := 4) sc_L_right.nd rfl (Or.inr rfl) (pe_op op_cat (pe_op op_cat (pv 4) (pe_lst (pa_cons (pv 7) pa_nil))) (pe_call (ok_L_said T) (hr.mono (by decide)) rfl T.g_L_said T.F_L_said.kp T.b_L_said .nil pass0 (pa_cons (pv 0) (pa_cons (pv 2) (pa_cons (pe_callTy call_int1 (by rfl) T.n_int (by decide +kernel) (pa_cons (pe_cmpR op_eq (pe_call (ok_L_take T) (hr.mono (by decide)) rfl T.g_L_take T.F_L_take.kp T.b_L_take .nil pass0 (pa_cons (pv 0) (pa_cons pe_int pa_nil))) pe_int (nomark _)) pa_nil)) pa_nil))))))
      (pss_one (ps_if (PW.pt (pw_and (pt_cmpR op_eq (pe_call (ok_L_take T) (hr.mono (by decide)) rfl T.g_L_take T.F_L_take.kp T.b_L_take .nil pass0 (pa_cons (pv 0) (pa_cons pe_int pa_nil))) pe_int (nomark _)) (pw_and1 (pt_cmpR op_lt (pv 6) pe_int (nomark _))))) (pss_cons (ps_asg (pe_tup (pa_cons (pe_callG (ok_L_step T) hg (hr.mono (by decide)) rfl T.g_L_step T.F_L_step.kp T.b_L_step (pa_cons (pv 1) (pa_cons (pv 3) (pa_cons (pv 2) (pa_cons (pv 4) (pa_cons (pv 5) pa_nil)))))) (pa_cons (pe_op op_add (pv 6) pe_int) pa_nil))) (pg_tup rfl (pgs_cons (pg_name (i := 5) sc_L_right.nd rfl (Or.inr rfl)) (pgs_cons (pg_name (i := 6) sc_L_right.nd rfl (Or.inl rfl)) pgs_nil))))
      (pss_one (ps_if (pt_cmpR op_isN (pv 5) pe_non (nomark _)) (pss_one (ps_ret pe_bl)) pss_nil))) pss_nil))))
      (pss_cons (ps_set (i := 5) sc_L_right.nd rfl (Or.inr rfl) (pe_callG (ok_L_step T) hg (hr.mono (by decide)) rfl T.g_L_step T.F_L_step.kp T.b_L_step (pa_cons (pv 1) (pa_cons (pv 3) (pa_cons (pv 2) (pa_cons (pv 4) (pa_cons (pv 5) pa_nil)))))))
      (pss_cons (ps_if (PW.pt (pw_or (pt_cmpR op_isN (pv 5) pe_non (nomark _)) (pw_or (pt_cmpR (op_neB encT hr) (pe_call (ok_order_by T) (hr.mono (by decide)) rfl T.g_order_by T.F_order_by.kp T.b_order_by .nil passL (pa_cons (pv 1) (pa_cons (pv 3) (pa_cons (pv 4) pa_nil)))) (pv 2) (nomark _)) (pw_or1 (pt_cmpR op_ne (pe_callB call_len_seq (by rfl) T.n_len (by decide +kernel) (pa_cons (pv 5) pa_nil)) (pe_op op_fdiv (pe_op op_mul (pe_callB call_len_seq (by rfl) T.n_len (by decide +kernel) (pa_cons (pv 2) pa_nil)) (pe_op op_sub (pe_callB call_len_seq (by rfl) T.n_len (by decide +kernel) (pa_cons (pv 2) pa_nil)) pe_int)) pe_int) (nomark _)))))) (pss_one (ps_ret pe_bl)) pss_nil)
      (pss_one (ps_ret (pe_callB (cr_all rfl) (by rfl) T.n_all (by decide +kernel) (pa_cons (pe_lc (own := [("_law_turn", 8)]) (g := gName 8) rfl sc_L_right.nd (pi_range1 (by rfl) T.n_range (pa_cons pe_int pa_nil)) (blkOk_by (own := [("_law_turn", 8)]) (N := ["_law_box_here", "_law_night_here", "_law_row", "_law_way", "_law_said_here", "_law_sure", "_law_checks", "_law_pair", "_law_turn"]) (sc := defScope s_L_right) (by decide +kernel)) (fun _ _ _ _ _ => (pg_name (i := 8) sc_L_right.nd rfl (Or.inl rfl))) (fun _ _ _ _ _ => pts_nil) (fun _ _ _ _ _ => (pe_call (ok_L_ring_right T) (hr.mono (by decide)) rfl T.g_L_ring_right T.F_L_ring_right.kp T.b_L_ring_right .nil pass0 (pa_cons (pv 0) (pa_cons (pv 1) (pa_cons (pv 3) (pa_cons (pv 4) (pa_cons (pv 5) pa_nil)))))))) pa_nil))))))))))), ?_⟩
  refine ⟨_, rfl, b, c, rfl, hb, by omega, fun H1 ev e but1 hb1 hE G => ?_⟩
  obtain ⟨ep, pa, pb, pc, rfl, hp, _, hgs, _⟩ := dE_at (id hE)
  refine ⟨_, rfl, _, rfl, rd_ixT hp (i := 1) rfl ⟨Str, inferInstance, PyData.str, encS, b, _, pb, e.guests.map V.str, e.guests, rfl, hb1, by omega, .inr hgs, DpAll.strs _, by have := G.hi; omega, fun _ => Nat.zero_le _, lless_S, intless_S, fun H2 v2 row but2 hb2 perm hv2 => ?_⟩⟩
  obtain ⟨rl, rfl, hrl⟩ := LL.strs hv2
  have hE2 := Dp.but hb1.box but2 _ (intless_dE e) hE
  refine ⟨rl, _, rfl, SqL.of hrl, NewT.mk fun r H3 s3 hR3 => ?_⟩
  have hE3 := Dp.same s3 _ hE2
  have hb3 := hb2.same s3
  have but3 := (but1.trans but2).trans (s3.but b)
  clear hE hE2 hp hgs but1 but2 hb1 hb2 hv2 hrl s3 hb
  have R := M e row G perm
  have glo := G.lo
  have ghi := G.hi
  have rlen := perm.length_eq
  have rnd : row.Nodup := perm.nodup_iff.mpr G.gnd
  have rmem : ∀ g, g ∈ row ↔ g ∈ e.guests := fun g => perm.mem_iff
  have rrk : row.length ≤ e.rack.length := by rw [G.len]; omega
  -- the way, no words yet
  refine ⟨_, rfl, _, rfl, _, _, e, row, rfl, hE3, dT_of hR3.sqt, rrk, R.ok.rack, fun H4 wv s4 hW4 => ?_⟩
  refine ⟨by decide, fun l1 hl1 => ⟨by decide, fun l2 hl2 => ?_⟩⟩
  refine ⟨sz4, fun t ht => ⟨t, _, rfl, .inl (.inl upd_same), rfl, _, _, rfl, _, _, rfl, _, _, rfl, _, _, rfl, rfl, ?_⟩⟩
  have n12 : l1 ≠ l2 := fun z => by rw [← z, upd_same] at hl2; cases hl2
  have s5 := ((s4.new hl1 (o := .lst [])).new hl2 (o := .lst [])).new ht (o := .tup [wv, .ref l1, .ref l2, .int 0])
  have hW5 := Dp.same (((same_new hl1 (o := .lst [])).new hl2 (o := .lst [])).new ht (o := .tup [wv, .ref l1, .ref l2, .int 0])) _ hW4
  have e1 : LL K (upd (upd (upd H4 l1 (.lst [])) l2 (.lst [])) t (.tup [wv, .ref l1, .ref l2, .int 0])) (.ref l1) (([] : List PP).map dP) := by
    refine ⟨l1, [], rfl, ?_, .nil⟩
    refine (same_new ht) _ _ ((same_new hl2) _ _ upd_same)
  have e2 : LL K (upd (upd (upd H4 l1 (.lst [])) l2 (.lst [])) t (.tup [wv, .ref l1, .ref l2, .int 0])) (.ref l2) (([] : List PP).map dP) := by
    refine ⟨l2, [], rfl, ?_, .nil⟩
    refine (same_new ht) _ _ upd_same
  have hE5 := Dp.same s5 _ hE3
  have hR5 := hR3.same s5
  have hb5 := hb3.same s5
  have but5 := but3.trans (s5.but b)
  generalize (upd (upd (upd H4 l1 (.lst [])) l2 (.lst [])) t (.tup [wv, .ref l1, .ref l2, .int 0])) = H5 at s5 hW5 e1 e2 hE5 hR5 hb5 but5
  clear hW4 s4 hl1 hl2 ht n12 hE3 hR3 hb3 but3 s5
  -- fewest_words is right
  refine ⟨_, rfl, _, rfl, _, _, e, row, rfl, hE5, dT_of hR5.sqt, by omega, rnd, fun g hg => (rmem g).mp hg, rrk, R.ok, R.why, R.due, fun H6 s6 => ⟨true, rfl, ?_⟩⟩
  refine iteF ?_
  have hE6 := Dp.same s6 _ hE5
  have hR6 := hR5.same s6
  refine ⟨_, rfl, _, rfl, _, rfl, _, _, e, row, rfl, hE6, dT_of hR6.sqt, by omega, rnd, fun g hg => (rmem g).mp hg, rrk, R.ok, R.why, fun H7 fv s7 hfv => ?_⟩
  obtain ⟨fl, zs, rfl, hfl, hzs⟩ := id hfv
  have fwl := fewest_len (e := e) (row := row)
  refine ⟨PP, inferInstance, dP, encP, b, _, fl, zs, e.fewest row, rfl, (hb5.same s6).same s7, by omega, .inl (SqL.of hfl), hzs, by omega, fun p => Nat.le_trans (depth_P p) (by decide), lless_PP, intless_PP, fun H8 v8 fw but8 hb8 fperm hv8 => ?_⟩
  obtain ⟨ql, qs, rfl, hql, hqs⟩ := id hv8
  have s57 := s6.trans s7
  have but58 := (s57.but b).trans but8
  have hE8 := Dp.but hb5.box but58 _ (intless_dE e) hE5
  have hW8 : Dp K H8 wv (dTP (e.way row)) := Dp.but hb5.box but58 _ (intless_dPs (e.way row)) hW5
  have hR8 := hR5.but hb5.box but58
  have e1' := e1.but hb5.box but58 rfl
  have e2' := e2.but hb5.box but58 rfl
  have but08 := but5.trans but58
  have fwlen : fw.length ≤ 24 := by have := fperm.length_eq; omega
  have fwin : ∀ p ∈ fw, WordIn row p := fun p hp => fewest_in p (fperm.mem_iff.mp hp)
  have fwall : ∀ p ∈ e.fewest row, p ∈ fw := fun p hp => fperm.mem_iff.mpr hp
  clear hfv hfl hzs fperm e1 e2 but58 but8 s57 s6 s7 hE5 hW5 hR5 hE6 hR6 hb5 but5 hv8
  refine ⟨ql, rfl, ⟨_, SqL.of hql⟩, ?_⟩
  refine for_it (walkLP hqs) (fun i σ H' => ∃ (words ahead : List PP) (sv av : V) (ch : Int) (y : Option V), σ = [some (.ref b), some (.ref ep), some (.ref r), some wv, some sv, some av, some (.int ch), y, none] ∧
      But b H8 H' ∧ BoxAt H' b (c + 7100 + 20 * i) ∧ LL K H' sv (words.map dP) ∧ LL K H' av (ahead.map dP) ∧ words.length ≤ 2 * i ∧ (∀ p ∈ words, WordIn row p) ∧ (∀ j p, j < i → fw[j]? = some p → p ∈ words) ∧
      ahead.length ≤ 1000 ∧ ∀ p ∈ ahead, Reach (e.pairs (e.way row) words) p.1 p.2)
    ⟨[], [], _, _, 0, _, rfl, But.refl _ _, hb8.mono (by omega), e1', e2', Nat.zero_le _, fun p h => absurd h List.not_mem_nil, fun j p h => absurd h (Nat.not_lt_zero _), Nat.zero_le _, fun p h => absurd h List.not_mem_nil⟩
    (fun i σ H' _ ⟨_, _, _, _, _, _, _, h, _⟩ => hb8.box.sql h (SqL.of hql) hqs (intless_dPs fw)) ?_ ?_
  · rintro i x σ _ H9 hi ⟨words, ahead, sv, av, ch, y, rfl, but9, hb9, hS, hA, wl, win, wdone, al, ain⟩ ⟨rfl, exi⟩
    have hx9 : Dp K H9 x (dP fw[i]) := (DpAll.but hb8.box but9 _ (intless_dPs fw) hqs).at_map (List.getElem?_eq_getElem hi) exi
    refine ⟨_, rfl, _, rfl, Nat.le_trans (show 1 ≤ 4 by decide) sz4, fun l3 hl3 => ?_⟩
    have s10 := same_new hl3 (o := .lst [x])
    have h3 : LL K (upd H9 l3 (.lst [x])) (.ref l3) ([fw[i]].map dP) := ⟨l3, [x], rfl, upd_same, .cons (Dp.same s10 _ hx9) .nil⟩
    refine rd_cat (hS.same s10) h3 (by simp; omega) fun H11 v11 s11 hv11 => ?_
    rw [← List.map_append] at hv11
    have s911 := s10.trans s11
    have hb11 := hb9.same s911
    have but11 := but9.trans (s911.but b)
    refine ⟨_, rfl, _, rfl, _, rfl, b, _, 6, rfl, hb11, by omega, by omega, by omega, fun H12 r6 but12 hb12 r60 r61 => ⟨rfl, .inr ⟨_, rfl, ?_⟩⟩⟩
    have hE12 := Dp.but hb8.box (but11.trans but12) _ (intless_dE e) hE8
    have hW12 : Dp K H12 wv (dTP (e.way row)) := Dp.but hb8.box (but11.trans but12) _ (intless_dPs (e.way row)) hW8
    have hR12 := hR8.but hb8.box (but11.trans but12)
    have hv12 := hv11.but hb11.box but12 (intless_dPs _)
    have hA12 := (hA.same s911).but hb11.box but12 (intless_dPs _)
    have hmany : (if decide (V.int r6 = V.int 0) = true then (1 : Int) else 0) = ((if decide (V.int r6 = V.int 0) = true then 1 else 0 : Nat) : Int) := by split <;> rfl
    have hm1 : (if decide (V.int r6 = V.int 0) = true then 1 else 0 : Nat) ≤ 1 := by split <;> omega
    rw [hmany]
    generalize (if decide (V.int r6 = V.int 0) = true then 1 else 0 : Nat) = many at hm1
    refine ⟨b, _, _, row, many, rfl, hb12, by omega, dT_of hR12.sqt, by omega, hm1, fun H13 v13 ws but13 hb13 hv13 wsl wsin => ?_⟩
    refine rd_cat (hv12.but hb12.box but13 (intless_dPs _)) hv13 (by simp; omega) fun H14 v14 s14 hv14 => ?_
    rw [← List.map_append] at hv14
    have hA14 := (hA12.but hb12.box but13 (intless_dPs _)).same s14
    have but14 := ((but11.trans but12).trans but13).trans (s14.but b)
    have hb14 := hb13.same s14
    have wl14 : ((words ++ [fw[i]]) ++ ws).length ≤ 2 * (i + 1) := by simp; omega
    have win14 : ∀ p ∈ (words ++ [fw[i]]) ++ ws, WordIn row p := fun p hp => by
      rcases List.mem_append.mp hp with z | z
      · rcases List.mem_append.mp z with z | z
        · exact win p z
        · rw [List.mem_singleton.mp z]
          exact fwin _ (List.getElem_mem hi)
      · exact wsin p z
    have wd14 : ∀ j p, j < i + 1 → fw[j]? = some p → p ∈ (words ++ [fw[i]]) ++ ws := fun j p hj ej => by
      by_cases z : j < i
      · exact List.mem_append_left _ (List.mem_append_left _ (wdone j p z ej))
      · have z2 : j = i := by omega
        subst z2
        rw [List.getElem?_eq_getElem hi] at ej
        cases ej
        exact List.mem_append_left _ (List.mem_append_right _ List.mem_cons_self)
    have ain14 : ∀ p ∈ ahead, Reach (e.pairs (e.way row) ((words ++ [fw[i]]) ++ ws)) p.1 p.2 := fun p hp => by
      rw [List.append_assoc]
      exact (ain p hp).mono pairs_more
    generalize (words ++ [fw[i]]) ++ ws = words2 at hv14 wl14 win14 wd14 ain14
    clear hE12 hW12 hR12 hv12 hA12 hmany but11 but12 but13 hv13 hv11 h3 hx9 s10 s11 s911 hS hA hb9 hl3
    refine ⟨_, rfl, b, _, 3, rfl, hb14, by omega, by omega, by omega, fun H15 r3 but15 hb15 r30 r31 => ⟨rfl, _, rfl, ?_⟩⟩
    have hv15 := hv14.but hb14.box but15 (intless_dPs _)
    have hA15 := hA14.but hb14.box but15 (intless_dPs _)
    have but85 := but14.trans but15
    have hE15 := Dp.but hb8.box but85 _ (intless_dE e) hE8
    have hW15 : Dp K H15 wv (dTP (e.way row)) := Dp.but hb8.box but85 _ (intless_dPs (e.way row)) hW8
    have hR15 := hR8.but hb8.box but85
    refine ite2 (fun q => ⟨_, rfl, _, _, rfl, rfl, _, rfl, ite2 (fun q2 => ?_) fun q2 => ?_⟩) fun q => ?_
    · have so := R.step words2 ahead win14 (by omega) ain14
      refine ⟨_, rfl, _, rfl, _, rfl, _, rfl, _, rfl, _, _, r, _, _, e, e.way row, row, words2, ahead, rfl, hE15, hW15, hR15, hv15, hA15, R.ok, R.why, by omega, al, so, fun H16 v16 sure s16 hv16 nds mems => ?_⟩
      refine ⟨_, rfl, _, _, rfl, rfl, sz2, fun t ht => ⟨t, _, rfl, .inl (.inl upd_same), rfl, _, _, rfl, _, _, rfl, rfl, ?_⟩⟩
      have s17 := same_new ht (o := .tup [v16, .int (ch + 1)])
      have s57 := s16.trans s17
      obtain ⟨sl, _, rfl, _⟩ := id hv16
      refine ⟨_, rfl, rfl, _, rfl, ?_⟩
      rw [decide_eq_false (by intro z; cases z)]
      refine iteF ⟨words2, sure, _, _, ch + 1, _, rfl, but85.trans (s57.but b), (hb15.same s57).mono (by omega), hv15.same s57, hv16.same s17, wl14, win14, wd14, sure_len so nds mems, fun p hp => (mems p).mp hp⟩
    · exact ⟨words2, ahead, _, _, ch, _, rfl, but85, hb15.mono (by omega), hv15, hA15, wl14, win14, wd14, al, ain14⟩
    · exact ⟨words2, ahead, _, _, ch, _, rfl, but85, hb15.mono (by omega), hv15, hA15, wl14, win14, wd14, al, ain14⟩
  · rintro σ H9 ⟨words, ahead, sv, av, ch, y, rfl, but9, hb9, hS, hA, wl, win, wdone, al, ain⟩
    have hE9 := Dp.but hb8.box but9 _ (intless_dE e) hE8
    have hW9 : Dp K H9 wv (dTP (e.way row)) := Dp.but hb8.box but9 _ (intless_dPs (e.way row)) hW8
    have hR9 := hR8.but hb8.box but9
    have wall : ∀ p ∈ e.fewest row, p ∈ words := fun p hp => by
      obtain ⟨j, ej⟩ := List.mem_iff_getElem?.mp (fwall p hp)
      exact wdone j p (List.getElem?_eq_some_iff.mp ej).1 ej
    have so := R.step words ahead win (by omega) ain
    refine ⟨_, rfl, _, rfl, _, rfl, _, rfl, _, rfl, _, _, r, _, _, e, e.way row, row, words, ahead, rfl, hE9, hW9, hR9, hS, hA, R.ok, R.why, by omega, al, so, fun H10 v10 sure s10 hv10 nds mems => ?_⟩
    have slen := sure_len so nds mems
    have scount := R.count words sure win wall nds mems
    obtain ⟨sl, szs, rfl, hsl, hszs⟩ := id hv10
    refine ⟨_, rfl, rfl, _, rfl, ?_⟩
    rw [decide_eq_false (by intro z; cases z)]
    have hE10 := Dp.same s10 _ hE9
    have hW10 : Dp K H10 wv (dTP (e.way row)) := Dp.same s10 _ hW9
    refine iteF ⟨_, rfl, _, rfl, _, rfl, _, _, _, e, e.way row, words, rfl, hE10, hW10, (hS.same s10).dp, R.ok, R.why, by omega, fun H11 fp found s11 hf ho => ?_, fun H3 d r ring _ _ _ hr3 => absurd hr3 (so.noring ring)⟩
    have fr := R.last words found win wall ho
    subst fr
    have hR11 := (hR9.same s10).same s11
    refine ⟨_, rfl, rd_neB (a := found) (b := found) (dT_of hf.sqt) (dT_of hR11.sqt) ⟨_, rfl, ?_⟩⟩
    rw [decide_eq_true rfl]
    refine iteF ?_
    have zlen : szs.length = sure.length := by rw [hszs.length, List.length_map]
    refine ⟨_, rfl, sl, szs, rfl, .inl (SqL.of (s11 _ _ hsl)), _, rfl, r, _, rfl, .inr hR11.sqt, _, rfl, r, _, rfl, .inr hR11.sqt, _, _, rfl, rfl, _, _, rfl, rfl, .inr ⟨?_, ?_⟩, _, _, rfl, rfl, ⟨by decide, by decide⟩, ?_⟩
    · rw [List.length_map]
      omega
    · rw [List.length_map]
      omega
    rw [List.length_map, zlen, scount]
    have hdiv : ((found.length : Int) * ((found.length : Int) - 1)) / 2 = ((found.length * (found.length - 1) / 2 : Nat) : Int) := by
      have h1 : ((found.length : Int) - 1) = ((found.length - 1 : Nat) : Int) := by omega
      rw [h1]
      norm_cast
    dsimp only
    rw [hdiv]
    refine ⟨rfl, _, rfl, ?_⟩
    rw [decide_eq_true rfl]
    refine iteF ⟨2, rfl, by omega, by omega, fun D hD => ?_⟩
    have sne : sure ≠ [] := fun z => by
      rw [z] at scount
      have h1 : 2 * 1 ≤ found.length * (found.length - 1) := Nat.mul_le_mul (by omega) (by omega)
      have h2 : (2 * 1) / 2 ≤ found.length * (found.length - 1) / 2 := Nat.div_le_div_right h1
      rw [← scount] at h2
      exact absurd h2 (by decide)
    have hb11 := (hb9.same s10).same s11
    have nDb := hb11.ne hD
    have but11 := (but9.trans (s10.but b)).trans (s11.but b)
    have hE11 := Dp.same s11 _ hE10
    have hW11 : Dp K H11 wv (dTP (e.way found)) := Dp.same s11 _ hW10
    have hS11 := (hS.same s10).same s11
    have hU11 := hv10.same s11
    refine lc_it walk_range (fun i H' => But b H11 H' ∧ BoxAt H' b (c + 8000 + i) ∧ H' D = some (.lst ((List.replicate i true).map V.bl)))
      ⟨(But.refl _ _).new hD, (hb11.same (same_new hD)).mono (by omega), upd_same⟩ (fun _ _ _ _ => trivial) ?_ ?_
    · rintro i x H12 _ hi ⟨but12, hb12, e12⟩ ⟨rfl, ex⟩
      refine ⟨rfl, _, rfl, _, rfl, _, rfl, _, rfl, _, rfl, b, _, _, _, _, _, e, e.way found, words, sure, rfl, hb12, by omega, Dp.but hb11.box but12 _ (intless_dE e) hE11, Dp.but hb11.box but12 _ (intless_dPs (e.way found)) hW11,
        hS11.but hb11.box but12 (intless_dPs _), (hU11.but hb11.box but12 (intless_dPs _)).dp, R.ok, R.why, by omega, sne, by omega, fun p hp => R.ring words p win ((mems p).mp hp), fun H13 but13 hb13 => ?_⟩
      refine ⟨(List.replicate i true).map V.bl, but13 _ _ nDb e12, ?_, (but12.trans but13).mut hD, (hb13.but_mut nDb).mono (by omega), ?_⟩
      · rw [List.length_map, List.length_replicate]
        exact sz100 (by omega)
      · rw [upd_same, List.replicate_succ', List.map_append]
        rfl
    · rintro H12 ⟨but12, hb12, e12⟩
      refine ⟨D, _, rfl, SqL.of e12, ?_⟩
      exact k _ (((but08.trans but11)).trans but12) (hb12.mono (by omega))
end
end WC
namespace WC
open PySem PySem.Spec PyProof.Rows L2
section
variable {P : Program} {w : World} {K : PySem.W.Frag} {mg : Str → Option Value} {base : Heap}
/-! ### law -/
def sp_law (K : PySem.W.Frag) : Sp := fun vs H Q _ => ∃ (a : Addr) (ns : List Int), vs = [.ref a] ∧ SqL K H a (ns.map V.int) ∧ ns.length ≤ 63 ∧ ∀ H', Q (.bl true) H'
theorem sc_law : FnScope ["_law_script", "_law_cells", "_law_k", "_law_box_here", "_law_turn"] ["_law_script"] (defScope s_law) := ⟨rfl, rfl, rfl, by decide +kernel, rfl, by decide +kernel, by decide +kernel⟩
theorem ok_law (M : ∀ (e : Ev) (row : List Str), Good e → row.Perm e.guests → RowOk e row) (T : Tx K mg) : FnOkG P w K mg base 12 (He.ga K "law") T.fd_law ["_law_script"] (sp_law K) := by
  refine okG T.F_law sc_law (fun vs H Q E h => ?_) (fun cdv A outer s H vs Q E hg hr h => ?_)
  · obtain ⟨a, ns, rfl, _⟩ := h
    rfl
  obtain ⟨a, ns, rfl, ha, hn, k⟩ := h
  refine ⟨_, PSs.nox (pss_cons (ps_set (i := 1) sc_law.nd rfl (Or.inl rfl) (pe_call (ok_L_folded T) (hr.mono (by decide)) rfl T.g_L_folded T.F_L_folded.kp T.b_L_folded .nil pass0 (pa_cons (pv 0) (pa_cons pe_int pa_nil))))
      (pss_cons (ps_for PassesOwn.never rfl (pi_range1 (by rfl) T.n_range (pa_cons (pe_callB (call_max2 rfl) (by rfl) T.n_max (by decide +kernel) (pa_cons pe_int (pa_cons (pe_callB call_len_seq (by rfl) T.n_len (by decide +kernel) (pa_cons (pv 1) pa_nil)) pa_nil))) pa_nil)) (pg_name (i := 2) sc_law.nd rfl (Or.inl rfl)) (pss_cons (ps_set (i := 3) sc_law.nd rfl (Or.inr rfl) (pe_call (ok_L_box T) (hr.mono (by decide)) rfl T.g_L_box T.F_L_box.kp T.b_L_box .nil pass0 (pa_cons (pv 1) (pa_cons (pv 2) pa_nil))))
      (pss_one (ps_if (pt_not (pt_val (pe_callB (cr_all rfl) (by rfl) T.n_all (by decide +kernel) (pa_cons (pe_lc (own := [("_law_turn", 4)]) (g := gName 4) rfl sc_law.nd (pi_range1 (by rfl) T.n_range (pa_cons pe_int pa_nil)) (blkOk_by (own := [("_law_turn", 4)]) (N := ["_law_script", "_law_cells", "_law_k", "_law_box_here", "_law_turn"]) (sc := defScope s_law) (by decide +kernel)) (fun _ _ _ _ _ => (pg_name (i := 4) sc_law.nd rfl (Or.inl rfl))) (fun _ _ _ _ _ => pts_nil) (fun _ _ _ _ _ => (pe_callG (ok_L_right M T) hg (hr.mono (by decide)) rfl T.g_L_right T.F_L_right.kp T.b_L_right (pa_cons (pv 3) pa_nil)))) pa_nil)))) (pss_one (ps_ret pe_bl)) pss_nil))))
      (pss_one (ps_ret pe_bl)))), ?_⟩
  refine ⟨_, rfl, a, ns, rfl, ha, hn, fun H1 p ms s1 hp hm => ?_⟩
  have hsz : (if (1 : Int) < (ms.length : Int) then (ms.length : Int) else 1) = ((max 1 ms.length : Nat) : Int) := by split <;> omega
  refine ⟨_, rfl, p, _, rfl, .inl (SqL.of hp), ?_⟩
  rw [List.length_map]
  refine ⟨1, (ms.length : Int), rfl, ?_⟩
  rw [show (if (ms.length : Int) > 1 then (ms.length : Int) else 1) = ((max 1 ms.length : Nat) : Int) by split <;> omega]
  refine ⟨_, rfl, by omega, by omega, ?_⟩
  rw [Int.toNat_natCast]
  have hmm : max 1 ms.length ≤ 2 := by omega
  generalize max 1 ms.length = m at hmm
  refine for_it walk_range (fun i σ H' => ∃ (x y : Option V), σ = [some (.ref a), some (.ref p), x, y, none] ∧ H' p = some (.lst (ms.map V.int))) ⟨_, _, rfl, hp⟩ (fun _ _ _ _ _ => trivial) ?_ ?_
  · rintro i x σ H2 H3 hi ⟨x1, y1, rfl, e2⟩ ⟨rfl, rfl⟩
    refine ⟨_, rfl, _, rfl, p, ms, i, congrArg (fun z => [V.ref p, V.int z]) (by omega), SqL.of e2, by omega, by omega, fun H4 b s4 hb4 fb => ?_⟩
    refine ⟨2, rfl, by omega, by omega, fun D hD => ?_⟩
    have nDb := hb4.ne hD
    have e4 := s4 _ _ e2
    have npb : p ≠ b := ne_of_none e2 fb
    have npD : p ≠ D := ne_of_none e4 hD
    refine lc_it walk_range (fun i H' => But b H4 H' ∧ BoxAt H' b (20000 * i) ∧ H' D = some (.lst ((List.replicate i true).map V.bl)))
      ⟨(But.refl _ _).new hD, (hb4.same (same_new hD)).mono (by omega), upd_same⟩ (fun _ _ _ _ => trivial) ?_ ?_
    · rintro i x H12 _ hi ⟨but12, hb12, e12⟩ ⟨rfl, ex⟩
      refine ⟨rfl, _, rfl, b, _, rfl, hb12, by omega, fun H13 but13 hb13 => ?_⟩
      refine ⟨(List.replicate i true).map V.bl, but13 _ _ nDb e12, ?_, (but12.trans but13).mut hD, (hb13.but_mut nDb).mono (by omega), ?_⟩
      · rw [List.length_map, List.length_replicate]
        exact sz100 (by omega)
      · rw [upd_same, List.replicate_succ', List.map_append]
        rfl
    · rintro H12 ⟨but12, hb12, e12⟩
      refine ⟨D, _, rfl, SqL.of e12, ?_⟩
      exact ⟨_, rfl, iteF ⟨_, _, rfl, but12 _ _ npb e4⟩⟩
  · rintro σ H2 ⟨x1, y1, rfl, e2⟩
    exact k _
end
end WC
/-! evenings and ways, with no program in sight -/
namespace WC
open PySem
/-! ### places in a list -/
theorem idx_app {l pre post : List Str} {g : Str} (nd : l.Nodup) (e : l = pre ++ g :: post) : l.idxOf g = pre.length := by
  subst e
  have h : g ∉ pre := fun z => (List.nodup_append.mp nd).2.2 g z g List.mem_cons_self rfl
  rw [List.idxOf_append, if_neg h, List.idxOf_cons]
  simp
theorem idx_lt_pre {l pre post : List Str} {g h : Str} (nd : l.Nodup) (e : l = pre ++ g :: post) (hh : h ∈ pre) : l.idxOf h < l.idxOf g := by
  rw [idx_app nd e]
  subst e
  rw [List.idxOf_append, if_pos hh]
  exact List.idxOf_lt_length_of_mem hh
theorem idx_lt_post {l pre post : List Str} {g h : Str} (nd : l.Nodup) (e : l = pre ++ g :: post) (hh : h ∈ post) : l.idxOf g < l.idxOf h := by
  obtain ⟨a, b, rfl⟩ := List.append_of_mem hh
  exact idx_lt_pre (pre := pre ++ g :: a) (g := h) (post := b) nd (by rw [e]; simp) (by simp)
theorem idx_inj {l : List Str} {g h : Str} (hg : g ∈ l) (hh : h ∈ l) (e : l.idxOf g = l.idxOf h) : g = h := by
  have h1 := List.getElem_idxOf (List.idxOf_lt_length_of_mem hg)
  have h2 := List.getElem_idxOf (List.idxOf_lt_length_of_mem hh)
  rw [← h1, ← h2]
  simp only [e]
theorem idx_at {l : List Str} {i : Nat} {g : Str} (nd : l.Nodup) (e : l[i]? = some g) : l.idxOf g = i := by
  obtain ⟨hi, e⟩ := List.getElem?_eq_some_iff.mp e
  rw [← e]
  exact List.Nodup.idxOf_getElem nd i hi
/-- the head of what is left hangs first -/
theorem head_least {rack left : List Str} {c x : Str} (nd : rack.Nodup) (s : (c :: left).Sublist rack) (hx : x ∈ left) : rack.idxOf c < rack.idxOf x := by
  obtain ⟨r1, r2, e, h1, h2⟩ := List.cons_sublist_iff.mp s
  obtain ⟨a, b, rfl⟩ := List.append_of_mem h1
  exact idx_lt_post (pre := a) (post := b ++ r2) nd (by rw [e]; simp) (List.mem_append_right _ (h2.subset hx))
theorem head_le {rack left : List Str} {c x : Str} (nd : rack.Nodup) (s : (c :: left).Sublist rack) (hx : x ∈ c :: left) : rack.idxOf c ≤ rack.idxOf x := by
  rcases List.mem_cons.mp hx with z | z
  · rw [z]
    exact Nat.le_refl _
  · exact Nat.le_of_lt (head_least nd s z)
section
variable {e : Ev}
/-! ### who takes what -/
theorem coat_own {left : List Str} {g : Str} (h : e.seek g = true) (m : g ∈ left) : e.coat left g = g := by
  unfold Ev.coat
  rw [h, decide_eq_true m]
  rfl
theorem coat_head {left : List Str} {g : Str} (h : ¬ (e.seek g = true ∧ g ∈ left)) : e.coat left g = left.headD g := by
  unfold Ev.coat
  rw [if_neg]
  rw [Bool.and_eq_true, decide_eq_true_iff]
  exact h
theorem coat_in {left : List Str} {g : Str} (h : left ≠ []) : e.coat left g ∈ left := by
  by_cases q : e.seek g = true ∧ g ∈ left
  · rw [coat_own q.1 q.2]
    exact q.2
  · rw [coat_head q]
    cases left with
    | nil => exact absurd rfl h
    | cons a l => exact List.mem_cons_self
theorem run_fst : ∀ (gs left : List Str), (e.run left gs).map Prod.fst = gs
  | [], _ => rfl
  | g :: gs, left => by
    show g :: (e.run _ gs).map Prod.fst = g :: gs
    rw [run_fst gs]
theorem run_snd : ∀ (gs left : List Str), gs.length = left.length → ((e.run left gs).map Prod.snd).Perm left
  | [], left, h => by
    have : left = [] := List.length_eq_zero_iff.mp h.symm
    rw [this]
    exact List.Perm.refl _
  | g :: gs, left, h => by
    have hc : e.coat left g ∈ left := coat_in fun z => by rw [z] at h; simp at h
    show (e.coat left g :: (e.run (left.erase (e.coat left g)) gs).map Prod.snd).Perm left
    refine List.Perm.trans ((run_snd gs _ ?_).cons _) (List.perm_cons_erase hc).symm
    rw [List.length_erase_of_mem hc, ← h]
    rfl
/-- a coat taken that is not the own: all before it are gone -/
theorem run_need (nd : e.rack.Nodup) : ∀ (gs left : List Str), left.Sublist e.rack → ∀ (pre : List PP) (g c : Str) (post : List PP), e.run left gs = pre ++ (g, c) :: post → ¬ (e.seek g = true ∧ c = g) →
    ∀ x ∈ left, e.rack.idxOf x < e.rack.idxOf c → x ∈ pre.map Prod.snd
  | [], left, s, pre, g, c, post, h, _, _, _, _ => by
    cases pre <;> simp [Ev.run] at h
  | y :: gs, left, s, [], g, c, post, h, own, x, hx, hlt => by
    have h1 : (y, e.coat left y) = (g, c) := (List.cons.inj h).1
    obtain ⟨rfl, rfl⟩ := Prod.mk.inj h1
    exfalso
    have q : ¬ (e.seek y = true ∧ y ∈ left) := fun q => own ⟨q.1, coat_own q.1 q.2⟩
    rw [coat_head q] at hlt
    cases left with
    | nil => cases hx
    | cons a l =>
      have := head_le nd s hx
      exact absurd hlt (Nat.not_lt.mpr this)
  | y :: gs, left, s, p :: pre, g, c, post, h, own, x, hx, hlt => by
    have h1 : (y, e.coat left y) = p := (List.cons.inj h).1
    have h2 : e.run (left.erase (e.coat left y)) gs = pre ++ (g, c) :: post := (List.cons.inj h).2
    by_cases q : x = e.coat left y
    · rw [q, ← h1]
      exact List.mem_cons_self
    · exact List.mem_cons_of_mem _ (run_need nd gs _ ((List.erase_sublist).trans s) pre g c post h2 own x ((List.mem_erase_of_ne q).mpr hx) hlt)
/-- nobody who seeks takes a coat that hangs ahead of the own -/
theorem run_why (nd : e.rack.Nodup) : ∀ (gs left : List Str), left.Sublist e.rack → gs.Nodup → (∀ x, e.seek x = true → x ∈ gs → x ∉ left → ∀ y ∈ left, e.rack.idxOf x < e.rack.idxOf y) →
    ∀ p ∈ e.run left gs, e.seek p.1 = true → ¬ e.rack.idxOf p.2 < e.rack.idxOf p.1
  | [], _, _, _, _, p, h => by cases h
  | g :: gs, left, s, ndg, inv, p, h => by
    obtain ⟨gn, ndg'⟩ := List.nodup_cons.mp ndg
    rcases List.mem_cons.mp (show p ∈ (g, e.coat left g) :: e.run (left.erase (e.coat left g)) gs from h) with z | z
    · subst z
      intro sk
      show ¬ e.rack.idxOf (e.coat left g) < e.rack.idxOf g
      by_cases m : g ∈ left
      · rw [coat_own sk m]
        exact Nat.lt_irrefl _
      · by_cases ne : left = []
        · rw [coat_head (fun q => m q.2), ne]
          show ¬ e.rack.idxOf g < e.rack.idxOf g
          omega
        · have := inv g sk List.mem_cons_self m _ (coat_in (e := e) (g := g) ne)
          omega
    · refine run_why nd gs _ ((List.erase_sublist).trans s) ndg' (fun x sk hx nx y hy => ?_) p z
      have ndl : left.Nodup := nd.sublist s
      have hy1 : y ∈ left := List.mem_of_mem_erase hy
      by_cases m : x ∈ left
      · have ex : x = e.coat left g := by
          by_cases q : x = e.coat left g
          · exact q
          · exact absurd ((List.mem_erase_of_ne q).mpr m) nx
        have ng : ¬ (e.seek g = true ∧ g ∈ left) := fun q => by
          rw [coat_own q.1 q.2] at ex
          rw [ex] at hx
          exact gn hx
        have ny : y ≠ e.coat left g := fun q => by
          rw [q] at hy
          exact (List.Nodup.not_mem_erase ndl) hy
        rw [ex]
        rw [coat_head ng] at ny ⊢
        cases left with
        | nil => cases hy1
        | cons a l =>
          rcases List.mem_cons.mp hy1 with q | q
          · exact absurd q ny
          · exact head_least nd s q
      · exact inv x sk (List.mem_cons_of_mem _ hx) m y hy1
/-- an order that keeps a way's needs leads to it -/
theorem run_of (nd : e.rack.Nodup) (f : Str → Str) : ∀ (gs left : List Str), left.Sublist e.rack → (∀ g ∈ gs, f g ∈ left) → gs.Nodup → (∀ g ∈ gs, ∀ h ∈ gs, f g = f h → g = h) →
    (∀ pre g post, gs = pre ++ g :: post → ¬ (e.seek g = true ∧ f g = g) → ∀ x ∈ left, e.rack.idxOf x < e.rack.idxOf (f g) → ∃ h ∈ pre, f h = x) → (∀ g ∈ gs, e.seek g = true → ¬ e.rack.idxOf (f g) < e.rack.idxOf g) →
    e.run left gs = gs.map fun g => (g, f g)
  | [], _, _, _, _, _, _, _ => rfl
  | g :: gs, left, s, hin, ndg, inj, first, why => by
    obtain ⟨gn, ndg'⟩ := List.nodup_cons.mp ndg
    have ndl : left.Nodup := nd.sublist s
    have fg : f g ∈ left := hin g List.mem_cons_self
    have none : ¬ (e.seek g = true ∧ f g = g) → ∀ x ∈ left, e.rack.idxOf (f g) ≤ e.rack.idxOf x := fun h x hx => by
      refine Nat.not_lt.mp fun lt => ?_
      obtain ⟨y, hy, _⟩ := first [] g gs rfl h x hx lt
      cases hy
    have hc : e.coat left g = f g := by
      by_cases q : e.seek g = true ∧ g ∈ left
      · rw [coat_own q.1 q.2]
        by_cases z : f g = g
        · exact z.symm
        · have h1 := none (fun w => z w.2) g q.2
          have h2 := why g List.mem_cons_self q.1
          exact idx_inj (s.subset q.2) (s.subset fg) (by omega)
      · rw [coat_head q]
        have h1 := none (fun w => q ⟨w.1, by rw [← w.2]; exact fg⟩)
        cases left with
        | nil => cases fg
        | cons a l =>
          have h2 := h1 a List.mem_cons_self
          have h3 := head_le nd s fg
          exact idx_inj (s.subset List.mem_cons_self) (s.subset fg) (by show e.rack.idxOf a = _; omega)
    show (g, e.coat left g) :: e.run (left.erase (e.coat left g)) gs = (g, f g) :: gs.map fun g => (g, f g)
    rw [hc]
    have ne : ∀ h ∈ gs, f h ≠ f g := fun h hh z => by
      have := inj h (List.mem_cons_of_mem _ hh) g List.mem_cons_self z
      rw [this] at hh
      exact gn hh
    rw [run_of nd f gs (left.erase (f g)) ((List.erase_sublist).trans s) (fun h hh => (List.mem_erase_of_ne (ne h hh)).mpr (hin h (List.mem_cons_of_mem _ hh))) ndg'
      (fun a ha b hb => inj a (List.mem_cons_of_mem _ ha) b (List.mem_cons_of_mem _ hb)) (fun pre h post eq own x hx lt => ?_) (fun h hh => why h (List.mem_cons_of_mem _ hh))]
    obtain ⟨y, hy, ey⟩ := first (g :: pre) h post (by rw [eq]; rfl) own x (List.mem_of_mem_erase hx) lt
    rcases List.mem_cons.mp hy with z | z
    · rw [z] at ey
      rw [← ey] at hx
      exact absurd hx (List.Nodup.not_mem_erase ndl)
    · exact ⟨y, z, ey⟩
end
end WC
/-! needs and ways -/
namespace WC
open PySem
/-! ### sorting pairs -/
theorem toks_inj {p q : PP} (h : PySem.W.keyToks (dP p) = PySem.W.keyToks (dP q)) : p = q := by
  obtain ⟨a, b⟩ := p
  obtain ⟨c, d⟩ := q
  simp only [dP, PySem.W.keyToks, PySem.W.keyToksAll, List.cons_append, List.nil_append, List.cons.injEq, Sum.inr.injEq, true_and, and_true] at h
  rw [PySem.W.str_of_cps h.1, PySem.W.str_of_cps h.2]
theorem le_total : PySem.W.TotalLe (PySem.W.dataLe (β := PP) false dP) := PySem.W.sortLe_total _ _ _
theorem le_anti {p q : PP} (h1 : PySem.W.dataLe false dP p q = true) (h2 : PySem.W.dataLe false dP q p = true) : p = q := by
  refine toks_inj ((PyProof.Rows.listOrd PyProof.Rows.itemOrd).total _ _ ?_ ?_)
  · simpa [PySem.W.dataLe, PySem.W.sortLe] using h2
  · simpa [PySem.W.dataLe, PySem.W.sortLe] using h1
theorem sort_eq {l m : List PP} (h : l.Perm m) : l.mergeSort (PySem.W.dataLe false dP) = m.mergeSort (PySem.W.dataLe false dP) :=
  List.Perm.eq_of_pairwise (le := fun a b => PySem.W.dataLe false dP a b = true) (fun a b _ _ h1 h2 => le_anti h1 h2) (PySem.W.sort_pairwise le_total l) (PySem.W.sort_pairwise le_total m)
    (((List.mergeSort_perm l _).trans h).trans (List.mergeSort_perm m _).symm)
theorem sort_eq_iff {l m : List PP} : l.mergeSort (PySem.W.dataLe false dP) = m.mergeSort (PySem.W.dataLe false dP) ↔ l.Perm m :=
  ⟨fun h => ((List.mergeSort_perm l _).symm.trans (by rw [h])).trans (List.mergeSort_perm m _), sort_eq⟩
/-! ### whose coat -/
theorem hasG_of : ∀ {way : List PP} {g c : Str}, (way.map Prod.snd).Nodup → (g, c) ∈ way → hasG way c = g
  | [], _, _, _, h => by cases h
  | p :: way, g, c, nd, h => by
    obtain ⟨hn, nd'⟩ := List.nodup_cons.mp (show (p.2 :: way.map Prod.snd).Nodup from nd)
    unfold hasG
    rw [List.find?_cons]
    rcases List.mem_cons.mp h with z | z
    · rw [← z]
      simp
    · have ne : ¬ p.2 = c := fun q => hn (List.mem_map.mpr ⟨(g, c), z, q.symm⟩)
      rw [decide_eq_false ne]
      exact hasG_of nd' z
theorem mem_way {e : Ev} {gs : List Str} {p : PP} : p ∈ e.way gs ↔ p ∈ e.goes gs := List.mem_mergeSort
theorem way_perm {e : Ev} {gs : List Str} : (e.way gs).Perm (e.goes gs) := List.mergeSort_perm _ _
theorem ahead_false {e : Ev} {g c : Str} : e.ahead g c = false ↔ (e.seek g = true → ¬ e.rack.idxOf c < e.rack.idxOf g) := by
  unfold Ev.ahead
  rw [Bool.and_eq_false_imp]
  simp only [decide_eq_false_iff_not]
theorem why_none {e : Ev} {way : List PP} : e.whyNot way = none ↔ ∀ p ∈ way, e.seek p.1 = true → ¬ e.rack.idxOf p.2 < e.rack.idxOf p.1 := by
  unfold Ev.whyNot
  rw [List.head?_eq_none_iff, List.map_eq_nil_iff, List.filter_eq_nil_iff]
  refine forall_congr' fun p => forall_congr' fun _ => ?_
  rw [Bool.not_eq_true, ahead_false]
theorem mem_seekers {e : Ev} {g : Str} : g ∈ e.seekers ↔ e.seek g = true := by
  unfold Ev.seekers
  rw [List.mem_filter]
  refine ⟨fun h => h.2, fun h => ⟨?_, h⟩⟩
  unfold Ev.seek at h
  rw [Bool.and_eq_true] at h
  exact of_decide_eq_true h.1
theorem mem_firsts {e : Ev} {way : List PP} {c : Str} : c ∈ e.firsts way ↔ c ∈ e.rack ∧ ¬ (hasG way c = c ∧ e.seek c = true) := by
  unfold Ev.firsts
  rw [List.mem_filter, Bool.or_eq_true, Bool.not_eq_true', Bool.not_eq_true', decide_eq_false_iff_not, decide_eq_false_iff_not, mem_seekers]
  refine and_congr_right fun _ => ?_
  by_cases h : hasG way c = c
  · simp [h]
  · simp [h]
theorem fn_of : ∀ {l : List PP}, (l.map Prod.fst).Nodup → ∃ f : Str → Str, l = (l.map Prod.fst).map fun g => (g, f g)
  | [], _ => ⟨id, rfl⟩
  | p :: l, nd => by
    obtain ⟨hn, nd'⟩ := List.nodup_cons.mp (show (p.1 :: l.map Prod.fst).Nodup from nd)
    obtain ⟨f, hf⟩ := fn_of nd'
    refine ⟨fun g => if g = p.1 then p.2 else f g, ?_⟩
    show p :: l = (p.1, if p.1 = p.1 then p.2 else f p.1) :: (l.map Prod.fst).map fun g => (g, if g = p.1 then p.2 else f g)
    rw [if_pos rfl]
    congr 1
    refine hf.trans (List.map_congr_left fun g hg => ?_)
    rw [if_neg fun z => hn (by rw [← z]; exact hg)]
/-! ### the needs -/
theorem needs_sound {way : List PP} {fs : List Str} : ∀ {cs : List Str} {later : Option Str} {a b : Str}, (a, b) ∈ needsGo way fs cs later →
    ∃ pre c post, cs = pre ++ c :: post ∧ a = hasG way c ∧ ((∃ d ∈ pre, d ∈ fs ∧ b = hasG way d) ∨ later = some b)
  | [], _, _, _, h => by cases h
  | c :: cs, later, a, b, h => by
    unfold needsGo at h
    rcases List.mem_append.mp h with h | h
    · cases later with
      | none => cases h
      | some l =>
        have := List.mem_singleton.mp h
        obtain ⟨rfl, rfl⟩ := Prod.mk.inj this
        exact ⟨[], c, cs, rfl, rfl, .inr rfl⟩
    · obtain ⟨pre, c', post, rfl, e1, e2⟩ := needs_sound h
      refine ⟨c :: pre, c', post, rfl, e1, ?_⟩
      rcases e2 with ⟨d, h1, h2, h3⟩ | e2
      · exact .inl ⟨d, List.mem_cons_of_mem _ h1, h2, h3⟩
      · by_cases q : c ∈ fs
        · rw [if_pos q] at e2
          exact .inl ⟨c, List.mem_cons_self, q, (Option.some.inj e2).symm⟩
        · rw [if_neg q] at e2
          exact .inr e2
theorem needs_later {way pairs : List PP} {fs : List Str} : ∀ {cs : List Str} {l : Str}, (∀ p ∈ needsGo way fs cs (some l), p ∈ pairs) → ∀ c ∈ cs, Reach pairs (hasG way c) l
  | [], _, _, _, h => by cases h
  | x :: cs, l, hp, c, h => by
    have h0 : (hasG way x, l) ∈ pairs := hp _ List.mem_cons_self
    have h1 : ∀ p ∈ needsGo way fs cs (if x ∈ fs then some (hasG way x) else some l), p ∈ pairs := fun p q => hp p (List.mem_cons_of_mem _ q)
    rcases List.mem_cons.mp h with z | z
    · rw [z]
      exact .one h0
    · by_cases q : x ∈ fs
      · rw [if_pos q] at h1
        exact (needs_later h1 c z).trans (.one h0)
      · rw [if_neg q] at h1
        exact needs_later h1 c z
theorem needs_tail {way : List PP} {fs : List Str} {d : Str} {cs : List Str} (hd : d ∈ fs) : ∀ (pre : List Str) (later : Option Str), ∀ p ∈ needsGo way fs cs (some (hasG way d)), p ∈ needsGo way fs (pre ++ d :: cs) later
  | [], later, p, h => by
    show p ∈ _ ++ needsGo way fs cs (if d ∈ fs then some (hasG way d) else later)
    rw [if_pos hd]
    exact List.mem_append_right _ h
  | x :: pre, later, p, h => List.mem_append_right _ (needs_tail hd pre _ p h)
theorem mem_needs {e : Ev} {way : List PP} {p : PP} : p ∈ e.needs way ↔ p ∈ needsGo way (e.firsts way) e.rack.reverse none := List.mem_mergeSort
/-- each need: the holder of a coat before the holder of a first coat behind it -/
theorem need_sound {e : Ev} {way : List PP} {a b : Str} (nd : e.rack.Nodup) (h : (a, b) ∈ e.needs way) : ∃ c d, c ∈ e.rack ∧ d ∈ e.firsts way ∧ e.rack.idxOf c < e.rack.idxOf d ∧ a = hasG way c ∧ b = hasG way d := by
  obtain ⟨pre, c, post, eq, e1, e2⟩ := needs_sound (mem_needs.mp h)
  rcases e2 with ⟨d, h1, h2, h3⟩ | e2
  · have er : e.rack = post.reverse ++ c :: pre.reverse := by
      rw [← List.reverse_reverse e.rack, eq]
      simp
    refine ⟨c, d, ?_, h2, idx_lt_post nd er (List.mem_reverse.mpr h1), e1, h3⟩
    rw [er]
    simp
  · cases e2
/-- all that they come to -/
theorem need_reach {e : Ev} {way : List PP} {c d : Str} (nd : e.rack.Nodup) (hc : c ∈ e.rack) (hd : d ∈ e.firsts way) (lt : e.rack.idxOf c < e.rack.idxOf d) : Reach (e.needs way) (hasG way c) (hasG way d) := by
  have dr := (mem_firsts.mp hd).1
  obtain ⟨a, b, er⟩ := List.append_of_mem dr
  have ca : c ∈ a := by
    rw [er] at hc
    rcases List.mem_append.mp hc with z | z
    · exact z
    · rcases List.mem_cons.mp z with z | z
      · rw [z] at lt
        omega
      · have := idx_lt_post nd er z
        omega
  have rr : e.rack.reverse = b.reverse ++ d :: a.reverse := by
    rw [er]
    simp
  refine needs_later (fs := e.firsts way) (fun p hp => ?_) c (List.mem_reverse.mpr ca)
  refine mem_needs.mpr ?_
  rw [rr]
  exact needs_tail hd _ _ p hp
end WC
/-! an order's way; which orders lead to it; neighbours -/
namespace WC
open PySem
/-- an order keeps pairs -/
def Keeps (row : List Str) (pairs : List PP) : Prop := ∀ p ∈ pairs, row.idxOf p.1 < row.idxOf p.2
theorem Keeps.reach {row : List Str} {pairs : List PP} (k : Keeps row pairs) {a b : Str} (h : Reach pairs a b) : row.idxOf a < row.idxOf b := by
  induction h with
  | one m => exact k _ m
  | step m _ ih => exact Nat.lt_trans (k _ m) ih
/-- what an order's way is -/
structure RowF (e : Ev) (row : List Str) (f : Str → Str) : Prop where
  goes : e.goes row = row.map fun g => (g, f g)
  mem : ∀ g ∈ row, f g ∈ e.rack
  inj : ∀ g ∈ row, ∀ h ∈ row, f g = f h → g = h
  sur : ∀ c ∈ e.rack, ∃ g ∈ row, f g = c
  snd : ((e.way row).map Prod.snd).Perm e.rack
  has : ∀ g ∈ row, hasG (e.way row) (f g) = g
  why : ∀ g ∈ row, e.seek g = true → ¬ e.rack.idxOf (f g) < e.rack.idxOf g
theorem rowF {e : Ev} {row : List Str} (G : Good e) (perm : row.Perm e.guests) : ∃ f, RowF e row f := by
  have rnd : row.Nodup := perm.nodup_iff.mpr G.gnd
  have len : row.length = e.rack.length := by rw [perm.length_eq, G.len]
  have hf : (e.goes row).map Prod.fst = row := run_fst row e.rack
  have hs : ((e.goes row).map Prod.snd).Perm e.rack := run_snd row e.rack len
  obtain ⟨f, ef⟩ := fn_of (l := e.goes row) (by rw [hf]; exact rnd)
  rw [hf] at ef
  have snds : (e.goes row).map Prod.snd = row.map f := by
    rw [ef, List.map_map]
    rfl
  have snd' : ((e.way row).map Prod.snd).Perm e.rack := (way_perm.map Prod.snd).trans hs
  rw [snds] at hs
  have ndm : (row.map f).Nodup := hs.nodup_iff.mpr G.rnd
  refine ⟨f, ef, fun g hg => hs.mem_iff.mp (List.mem_map.mpr ⟨g, hg, rfl⟩), ?_, fun c hc => ?_, snd', fun g hg => ?_, fun g hg sk => ?_⟩
  · have key : ∀ l : List Str, (l.map f).Nodup → ∀ g ∈ l, ∀ h ∈ l, f g = f h → g = h := fun l => by
      induction l with
      | nil => intro _ g hg; cases hg
      | cons x l ih =>
        intro nd g hg h hh eq
        obtain ⟨n1, n2⟩ := List.nodup_cons.mp (show (f x :: l.map f).Nodup from nd)
        rcases List.mem_cons.mp hg with z | z
        · rcases List.mem_cons.mp hh with y | y
          · rw [z, y]
          · exact absurd (List.mem_map.mpr ⟨h, y, by rw [← eq, z]⟩) n1
        · rcases List.mem_cons.mp hh with y | y
          · exact absurd (List.mem_map.mpr ⟨g, z, by rw [eq, y]⟩) n1
          · exact ih n2 g z h y eq
    exact key row ndm
  · obtain ⟨g, hg, eg⟩ := List.mem_map.mp (hs.mem_iff.mpr hc)
    exact ⟨g, hg, eg⟩
  · refine hasG_of (snd'.nodup_iff.mpr G.rnd) (mem_way.mpr ?_)
    rw [ef]
    exact List.mem_map.mpr ⟨g, hg, rfl⟩
  · refine run_why G.rnd row e.rack (List.Sublist.refl _) rnd (fun x sk _ nx => ?_) (g, f g) (by show (g, f g) ∈ e.goes row; rw [ef]; exact List.mem_map.mpr ⟨g, hg, rfl⟩) sk
    unfold Ev.seek at sk
    simp only [Bool.and_eq_true] at sk
    exact absurd (of_decide_eq_true sk.2.2) nx
theorem way_ok {e : Ev} {row : List Str} (G : Good e) (perm : row.Perm e.guests) : WayOk e (e.way row) := by
  obtain ⟨f, F⟩ := rowF G perm
  have hi := G.hi
  have ln := G.len
  refine ⟨?_, F.snd.nodup_iff.mpr G.rnd, fun p hp => F.snd.mem_iff.mp (List.mem_map.mpr ⟨p, hp, rfl⟩), fun c hc => F.snd.mem_iff.mpr hc, by omega, by omega⟩
  have := F.snd.length_eq
  rw [List.length_map] at this
  omega
theorem way_why {e : Ev} {row : List Str} (G : Good e) (perm : row.Perm e.guests) : e.whyNot (e.way row) = none := by
  obtain ⟨f, F⟩ := rowF G perm
  refine why_none.mpr fun p hp sk => ?_
  have hp' := mem_way.mp hp
  rw [F.goes] at hp'
  obtain ⟨g, hg, rfl⟩ := List.mem_map.mp hp'
  exact F.why g hg sk
theorem first_iff {e : Ev} {row : List Str} {f : Str → Str} (F : RowF e row f) {g : Str} (hg : g ∈ row) : f g ∈ e.firsts (e.way row) ↔ ¬ (e.seek g = true ∧ f g = g) := by
  rw [mem_firsts, F.has g hg]
  constructor
  · rintro ⟨_, h⟩ ⟨h1, h2⟩
    exact h ⟨h2.symm, by rw [h2]; exact h1⟩
  · refine fun h => ⟨F.mem g hg, fun ⟨h1, h2⟩ => h ⟨?_, h1.symm⟩⟩
    rw [← h1] at h2
    exact h2
/-- an order keeps the needs of its way -/
theorem needs_keep {e : Ev} {row : List Str} (G : Good e) (perm : row.Perm e.guests) : Keeps row (e.needs (e.way row)) := by
  obtain ⟨f, F⟩ := rowF G perm
  have rnd : row.Nodup := perm.nodup_iff.mpr G.gnd
  rintro ⟨a, b⟩ hp
  obtain ⟨c, d, hc, hd, lt, ea, eb⟩ := need_sound G.rnd hp
  obtain ⟨h, hh, rfl⟩ := F.sur d (mem_firsts.mp hd).1
  obtain ⟨k, hk, rfl⟩ := F.sur c hc
  rw [F.has h hh] at eb
  rw [F.has k hk] at ea
  subst ea eb
  obtain ⟨pre, post, er⟩ := List.append_of_mem hh
  have run : e.run e.rack row = (pre.map fun g => (g, f g)) ++ (b, f b) :: post.map fun g => (g, f g) := by
    refine (F.goes : e.run e.rack row = _).trans ?_
    rw [er, List.map_append]
    rfl
  have := run_need G.rnd row e.rack (List.Sublist.refl _) _ b (f b) _ run ((first_iff F hh).mp hd) (f a) hc lt
  rw [List.map_map] at this
  obtain ⟨k', hk', ek⟩ := List.mem_map.mp this
  have : k' = a := F.inj k' (by rw [er]; exact List.mem_append_left _ hk') a hk ek
  rw [this] at hk'
  exact idx_lt_pre rnd er hk'
/-- an order that keeps the needs leads to the way -/
theorem way_of_keep {e : Ev} {row row' : List Str} (G : Good e) (perm : row.Perm e.guests) (perm' : row'.Perm e.guests) (k : Keeps row' (e.needs (e.way row))) : e.way row' = e.way row := by
  obtain ⟨f, F⟩ := rowF G perm
  have rnd' : row'.Nodup := perm'.nodup_iff.mpr G.gnd
  have pp : row'.Perm row := perm'.trans perm.symm
  have mm : ∀ g, g ∈ row' ↔ g ∈ row := fun g => pp.mem_iff
  have run : e.goes row' = row'.map fun g => (g, f g) := by
    refine run_of G.rnd f row' e.rack (List.Sublist.refl _) (fun g hg => F.mem g ((mm g).mp hg)) rnd' (fun g hg h hh => F.inj g ((mm g).mp hg) h ((mm h).mp hh)) (fun pre g post er own x hx lt => ?_) (fun g hg => F.why g ((mm g).mp hg))
    have hg : g ∈ row := (mm g).mp (by rw [er]; simp)
    obtain ⟨h, hh, rfl⟩ := F.sur x hx
    refine ⟨h, ?_, rfl⟩
    have r := need_reach G.rnd hx ((first_iff F hg).mpr own) lt
    rw [F.has h hh, F.has g hg] at r
    have lt2 := k.reach r
    have hh' := (mm h).mpr hh
    rw [er] at hh'
    rcases List.mem_append.mp hh' with z | z
    · exact z
    · rcases List.mem_cons.mp z with z | z
      · rw [z] at lt2
        omega
      · have := idx_lt_post rnd' er z
        omega
  have e1 : (e.goes row').Perm (e.goes row) := by
    rw [run, F.goes]
    exact pp.map _
  exact sort_eq e1
/-! ### neighbours exchanged -/
theorem swap_idx {pre post : List Str} {a b x : Str} (nd : (pre ++ a :: b :: post).Nodup) : (pre ++ b :: a :: post).idxOf x = if x = a then pre.length + 1 else if x = b then pre.length else (pre ++ a :: b :: post).idxOf x := by
  have na : a ∉ pre := fun z => (List.nodup_append.mp nd).2.2 a z a List.mem_cons_self rfl
  have nb : b ∉ pre := fun z => (List.nodup_append.mp nd).2.2 b z b (by simp) rfl
  have nab : a ≠ b := fun z => by
    have := (List.nodup_cons.mp (List.nodup_append.mp nd).2.1).1
    rw [z] at this
    exact this List.mem_cons_self
  by_cases xa : x = a
  · subst xa
    rw [if_pos rfl, List.idxOf_append, if_neg na, List.idxOf_cons, List.idxOf_cons]
    have : (b == x) = false := by simpa using fun z : b = x => nab z.symm
    rw [this]
    simp
    omega
  · rw [if_neg xa]
    by_cases xb : x = b
    · subst xb
      rw [if_pos rfl, List.idxOf_append, if_neg nb, List.idxOf_cons]
      simp
    · rw [if_neg xb, List.idxOf_append, List.idxOf_append]
      by_cases xp : x ∈ pre
      · rw [if_pos xp, if_pos xp]
      · rw [if_neg xp, if_neg xp]
        simp only [List.idxOf_cons]
        have h1 : (a == x) = false := by simpa using fun z : a = x => xa z.symm
        have h2 : (b == x) = false := by simpa using fun z : b = x => xb z.symm
        rw [h1, h2]
theorem idx_eq {l : List Str} {x a : Str} (ha : a ∈ l) (e : l.idxOf x = l.idxOf a) : x = a := by
  refine idx_inj ?_ ha e
  have := List.idxOf_lt_length_of_mem ha
  rw [← e] at this
  exact List.idxOf_lt_length_iff.mp this
theorem swap_keeps {pre post : List Str} {a b x y : Str} (nd : (pre ++ a :: b :: post).Nodup) (h : (pre ++ a :: b :: post).idxOf x < (pre ++ a :: b :: post).idxOf y) (ne : (x, y) ≠ (a, b)) :
    (pre ++ b :: a :: post).idxOf x < (pre ++ b :: a :: post).idxOf y := by
  have ia : (pre ++ a :: b :: post).idxOf a = pre.length := idx_app nd rfl
  have ib : (pre ++ a :: b :: post).idxOf b = pre.length + 1 := by
    have := idx_app (l := pre ++ a :: b :: post) (pre := pre ++ [a]) (g := b) (post := post) nd (by simp)
    rw [this]
    simp
  have ma : a ∈ pre ++ a :: b :: post := by simp
  have mb : b ∈ pre ++ a :: b :: post := by simp
  rw [swap_idx nd, swap_idx nd]
  by_cases xa : x = a
  · rw [if_pos xa]
    by_cases ya : y = a
    · rw [xa, ya] at h
      omega
    · rw [if_neg ya]
      by_cases yb : y = b
      · exact absurd (by rw [xa, yb]) ne
      · rw [if_neg yb]
        have : ¬ (pre ++ a :: b :: post).idxOf y = pre.length + 1 := fun z => yb (idx_eq mb (by rw [z, ib]))
        rw [xa] at h
        omega
  · rw [if_neg xa]
    by_cases xb : x = b
    · rw [if_pos xb]
      rw [xb] at h
      by_cases ya : y = a
      · rw [ya] at h
        omega
      · rw [if_neg ya]
        by_cases yb : y = b
        · rw [yb] at h
          omega
        · rw [if_neg yb]
          omega
    · rw [if_neg xb]
      have : ¬ (pre ++ a :: b :: post).idxOf x = pre.length := fun z => xa (idx_eq ma (by rw [z, ia]))
      by_cases ya : y = a
      · rw [if_pos ya]
        rw [ya] at h
        omega
      · rw [if_neg ya]
        by_cases yb : y = b
        · rw [if_pos yb]
          rw [yb] at h
          omega
        · rw [if_neg yb]
          exact h
theorem swap_iff {e : Ev} {pre post : List Str} {a b : Str} (G : Good e) (perm : (pre ++ a :: b :: post).Perm e.guests) :
    e.way (pre ++ b :: a :: post) = e.way (pre ++ a :: b :: post) ↔ (a, b) ∉ e.needs (e.way (pre ++ a :: b :: post)) := by
  have nd : (pre ++ a :: b :: post).Nodup := perm.nodup_iff.mpr G.gnd
  have perm' : (pre ++ b :: a :: post).Perm e.guests := ((List.Perm.swap a b post).append_left pre).trans perm
  constructor
  · intro h m
    rw [← h] at m
    have k := needs_keep G perm' _ m
    rw [swap_idx nd, swap_idx nd, if_pos rfl] at k
    by_cases z : b = a
    · rw [if_pos z] at k
      omega
    · rw [if_neg z, if_pos rfl] at k
      omega
  · intro h
    refine way_of_keep G perm perm' fun p hp => swap_keeps nd (needs_keep G perm p hp) fun z => h ?_
    rw [← z]
    exact hp
theorem zip_next {row : List Str} : row.zip (row.drop 1) = (List.range (row.length - 1)).map fun i => (row.getD i Str.empty, row.getD (i + 1) Str.empty) := by
  refine List.ext_getElem (by simp) fun i h1 h2 => ?_
  simp at h1 h2
  rw [List.getElem_zip, List.getElem_drop, List.getElem_map, List.getElem_range]
  rw [List.getD_eq_getElem?_getD, List.getD_eq_getElem?_getD, List.getElem?_eq_getElem (show i < row.length by omega), List.getElem?_eq_getElem (show i + 1 < row.length by omega)]
  simp only [Nat.add_comm 1 i, Option.getD_some]
theorem due_eq {e : Ev} {row : List Str} (G : Good e) (perm : row.Perm e.guests) : e.fewest row = e.due row := by
  unfold Ev.fewest Ev.due
  rw [zip_next, List.filter_map]
  congr 1
  refine List.filter_congr fun i hi => ?_
  have hi := List.mem_range.mp hi
  have er : row = row.take i ++ row.getD i Str.empty :: row.getD (i + 1) Str.empty :: row.drop (i + 2) := by
    have h1 : row.drop i = row[i] :: row.drop (i + 1) := List.drop_eq_getElem_cons (by omega)
    have h2 : row.drop (i + 1) = row[i + 1] :: row.drop (i + 2) := List.drop_eq_getElem_cons (by omega)
    rw [List.getD_eq_getElem?_getD, List.getD_eq_getElem?_getD, List.getElem?_eq_getElem (show i < row.length by omega), List.getElem?_eq_getElem (show i + 1 < row.length by omega), Option.getD_some, Option.getD_some, ← h2, ← h1, List.take_append_drop]
  have es : swapAt row i = row.take i ++ row.getD (i + 1) Str.empty :: row.getD i Str.empty :: row.drop (i + 2) := by
    unfold swapAt
    simp
  have p2 : (row.take i ++ row.getD i Str.empty :: row.getD (i + 1) Str.empty :: row.drop (i + 2)).Perm e.guests := by
    rw [← er]
    exact perm
  have h := swap_iff G p2
  rw [← er, ← es] at h
  show (!decide ((row.getD i Str.empty, row.getD (i + 1) Str.empty) ∈ e.needs (e.way row))) = decide (e.way (swapAt row i) = e.way row)
  rw [Bool.eq_iff_iff, decide_eq_true_iff, h]
  simp
end WC
/-! first orders, sure pairs, rings -/
namespace WC
open PySem
theorem idx_ne {r x : Str} (l : List Str) (h : r ≠ x) : (r :: l).idxOf x = l.idxOf x + 1 := by
  rw [List.idxOf_cons]
  have : (r == x) = false := by simpa using h
  rw [this]
  rfl
/-! ### an order found keeps the pairs, and is the least that does -/
theorem Topo.keeps {pairs : List PP} {found : List Str} (nd : found.Nodup) (t : Topo pairs found) (mem : ∀ p ∈ pairs, p.1 ∈ found) : Keeps found pairs := fun p hp => by
  obtain ⟨pre, post, e⟩ := List.append_of_mem (mem p hp)
  exact idx_lt_post nd e (t pre p.1 post e p.2 hp)
theorem Ord.keeps {pairs : List PP} {gs found : List Str} (o : Ord pairs gs found) (cl : ∀ p ∈ pairs, p.1 ∈ gs ∧ p.2 ∈ gs) : Keeps found pairs :=
  Topo.keeps o.nodup (o.topo fun p hp _ => (cl p hp).2) fun p hp => (o.mem _).mpr (cl p hp).1
theorem leastS_le : ∀ (xs : List Str) (x y : Str), y ∈ x :: xs → (leastS x xs).cps.toList ≤ y.cps.toList
  | [], x, y, h => by
    have : y = x := by simpa using h
    rw [this]
    exact List.le_refl _
  | z :: xs, x, y, h => by
    have ih := leastS_le xs (if z.cps.toList < x.cps.toList then z else x)
    unfold leastS at ih ⊢
    rw [List.foldl_cons]
    have h1 : ∀ w, w = x ∨ w = z → (if z.cps.toList < x.cps.toList then z else x).cps.toList ≤ w.cps.toList := by
      intro w hw
      by_cases q : z.cps.toList < x.cps.toList
      · rw [if_pos q]
        rcases hw with e | e
        · rw [e]
          exact List.le_of_lt q
        · rw [e]
          exact List.le_refl _
      · rw [if_neg q]
        rcases hw with e | e
        · rw [e]
          exact List.le_refl _
        · rw [e]
          exact List.not_lt.mp q
    have h2 := ih _ List.mem_cons_self
    rcases List.mem_cons.mp h with e | h
    · exact List.le_trans h2 (h1 y (.inl e))
    · rcases List.mem_cons.mp h with e | h
      · exact List.le_trans h2 (h1 y (.inr e))
      · exact ih y (List.mem_cons_of_mem _ h)
theorem Ord.least {pairs : List PP} {left found : List Str} (o : Ord pairs left found) : ∀ row : List Str, row.Nodup → (∀ g, g ∈ row ↔ g ∈ left) → (∀ p ∈ pairs, p.1 ∈ row → p.2 ∈ row → row.idxOf p.1 < row.idxOf p.2) →
    PyProof.Rows.lexLt PyProof.Rows.itemOrd (PySem.W.keyToksAll (row.map PyData.str)) (PySem.W.keyToksAll (found.map PyData.str)) = false := by
  induction o with
  | nil =>
    intro row _ hm _
    have : row = [] := List.eq_nil_iff_forall_not_mem.mpr fun a ha => by have := (hm a).mp ha; cases this
    subst this
    exact PyProof.Rows.lex_irrefl _
  | @cons left found x xs hf o ih =>
    intro row nd hm hk
    cases row with
    | nil => exact absurd ((hm _).mpr (least_free hf).1) List.not_mem_nil
    | cons r rest =>
      have rl : r ∈ left := (hm r).mp List.mem_cons_self
      have rf : r ∈ freeOf pairs left := mem_free.mpr ⟨rl, fun y hy hl => by
        have := hk (y, r) hy ((hm y).mpr hl) List.mem_cons_self
        rw [List.idxOf_cons_self] at this
        exact absurd this (Nat.not_lt_zero _)⟩
      rw [hf] at rf
      have le := leastS_le xs x r rf
      show PyProof.Rows.lexLt PyProof.Rows.itemOrd (PySem.W.keyToksAll (.str r :: rest.map PyData.str)) (PySem.W.keyToksAll (.str (leastS x xs) :: found.map PyData.str)) = false
      by_cases e : r = leastS x xs
      · rw [← e, PySem.W.toks_all_cons, PySem.W.toks_all_cons]
        refine (PyProof.Rows.lex_self (O := PyProof.Rows.itemOrd) _ _ _).trans ((PySem.W.lex_pre _ _ _).trans ?_)
        obtain ⟨rn, nd'⟩ := List.nodup_cons.mp nd
        refine ih rest nd' (fun g => ?_) fun p hp h1 h2 => ?_
        · rw [mem_without, ← hm g, List.mem_cons, ← e]
          constructor
          · intro h
            exact ⟨.inr h, fun z => rn (by rw [← z]; exact h)⟩
          · rintro ⟨h | h, q⟩
            · exact absurd h q
            · exact h
        · have := hk p hp (List.mem_cons_of_mem _ h1) (List.mem_cons_of_mem _ h2)
          have n1 : r ≠ p.1 := fun z => rn (by rw [z]; exact h1)
          have n2 : r ≠ p.2 := fun z => rn (by rw [z]; exact h2)
          rw [idx_ne _ n1, idx_ne _ n2] at this
          exact Nat.lt_of_succ_lt_succ this
      · rw [PySem.W.toks_all_cons, PySem.W.toks_all_cons]
        refine (PyProof.Rows.lex_self (O := PyProof.Rows.itemOrd) _ _ _).trans ?_
        have ne : (Sum.inr r.cps.toList : Int ⊕ List Nat) ≠ .inr (leastS x xs).cps.toList := fun z => e (PySem.W.str_of_cps (Sum.inr.inj z))
        refine (PyProof.Rows.lex_diff (O := PyProof.Rows.itemOrd) ne).trans ?_
        show decide (r.cps.toList < (leastS x xs).cps.toList) = false
        rw [decide_eq_false_iff_not]
        exact List.not_lt.mpr le
/-! ### where all neighbours are said -/
def Chain (pairs : List PP) (row : List Str) : Prop := ∀ i a b, row[i]? = some a → row[i + 1]? = some b → (a, b) ∈ pairs
theorem Chain.tail {pairs : List PP} {r : Str} {rest : List Str} (c : Chain pairs (r :: rest)) : Chain pairs rest := fun i a b h1 h2 => c (i + 1) a b (by simpa using h1) (by simpa using h2)
theorem Chain.reach {pairs : List PP} : ∀ {row : List Str} {r : Str}, Chain pairs (r :: row) → ∀ x ∈ row, Reach pairs r x
  | [], _, _, _, h => by cases h
  | y :: row, r, c, x, h => by
    have h1 : (r, y) ∈ pairs := c 0 r y rfl rfl
    rcases List.mem_cons.mp h with z | z
    · rw [z]
      exact .one h1
    · exact .step h1 (Chain.reach c.tail x z)
theorem Chain.only {pairs : List PP} {left found : List Str} (o : Ord pairs left found) : ∀ row : List Str, row.Nodup → (∀ g, g ∈ row ↔ g ∈ left) → Chain pairs row → found = row := by
  induction o with
  | nil =>
    intro row _ hm _
    exact (List.eq_nil_iff_forall_not_mem.mpr fun a ha => by have := (hm a).mp ha; cases this).symm
  | @cons left found x xs hf o ih =>
    intro row nd hm c
    obtain ⟨h1, h2⟩ := least_free hf
    cases row with
    | nil => exact absurd ((hm _).mpr h1) List.not_mem_nil
    | cons r rest =>
      obtain ⟨rn, nd'⟩ := List.nodup_cons.mp nd
      have er : leastS x xs = r := by
        rcases List.mem_cons.mp ((hm _).mpr h1) with z | z
        · exact z
        · obtain ⟨i, hi⟩ := List.mem_iff_getElem?.mp z
          have hil := (List.getElem?_eq_some_iff.mp hi).1
          have hp : (r :: rest)[i]? = some ((r :: rest)[i]'(by simp; omega)) := List.getElem?_eq_getElem _
          have := c i _ _ hp (by simpa using hi)
          exact absurd ((hm _).mp (List.getElem_mem _)) (h2 _ this)
      rw [er]
      congr 1
      refine ih rest nd' (fun g => ?_) c.tail
      rw [mem_without, ← hm g, List.mem_cons, er]
      constructor
      · intro h
        exact ⟨.inr h, fun z => rn (by rw [← z]; exact h)⟩
      · rintro ⟨h | h, q⟩
        · exact absurd h q
        · exact h
/-- all pairs of a row, in its order -/
def allPairs : List Str → List PP
  | [] => []
  | r :: rest => rest.map (fun x => (r, x)) ++ allPairs rest
theorem allPairs_len : ∀ l : List Str, (allPairs l).length = l.length * (l.length - 1) / 2
  | [] => rfl
  | r :: rest => by
    show (rest.map (fun x => (r, x)) ++ allPairs rest).length = (rest.length + 1) * rest.length / 2
    rw [List.length_append, List.length_map, allPairs_len rest]
    cases h : rest.length with
    | zero => rfl
    | succ n =>
      show n + 1 + (n + 1) * n / 2 = (n + 1 + 1) * (n + 1) / 2
      have h1 : (n + 1 + 1) * (n + 1) = 2 * (n + 1) + (n + 1) * n := by
        rw [Nat.mul_comm (n + 1) n, ← Nat.add_mul]
        congr 1
        omega
      rw [h1, Nat.mul_add_div (by omega)]
theorem allPairs_mem : ∀ {l : List Str}, l.Nodup → ∀ {p : PP}, p ∈ allPairs l ↔ p.1 ∈ l ∧ p.2 ∈ l ∧ l.idxOf p.1 < l.idxOf p.2
  | [], _, p => ⟨fun h => (by cases h), fun h => (by cases h.1)⟩
  | r :: rest, nd, p => by
    obtain ⟨rn, nd'⟩ := List.nodup_cons.mp nd
    have ih := allPairs_mem nd' (p := p)
    show p ∈ rest.map (fun x => (r, x)) ++ allPairs rest ↔ _
    rw [List.mem_append, ih, List.mem_map]
    constructor
    · rintro (⟨x, hx, e⟩ | ⟨h1, h2, h3⟩)
      · rw [← e]
        refine ⟨List.mem_cons_self, List.mem_cons_of_mem _ hx, ?_⟩
        show (r :: rest).idxOf r < (r :: rest).idxOf x
        rw [List.idxOf_cons_self, idx_ne _ fun z => rn (by rw [z]; exact hx)]
        omega
      · refine ⟨List.mem_cons_of_mem _ h1, List.mem_cons_of_mem _ h2, ?_⟩
        rw [idx_ne _ fun z => rn (by rw [z]; exact h1), idx_ne _ fun z => rn (by rw [z]; exact h2)]
        omega
    · rintro ⟨h1, h2, h3⟩
      rcases List.mem_cons.mp h2 with z2 | z2
      · rw [z2, List.idxOf_cons_self] at h3
        omega
      · rcases List.mem_cons.mp h1 with z1 | z1
        · refine .inl ⟨p.2, z2, ?_⟩
          rw [← z1]
        · refine .inr ⟨z1, z2, ?_⟩
          rw [idx_ne _ fun z => rn (by rw [z]; exact z1), idx_ne _ fun z => rn (by rw [z]; exact z2)] at h3
          omega
theorem allPairs_nodup : ∀ {l : List Str}, l.Nodup → (allPairs l).Nodup
  | [], _ => List.nodup_nil
  | r :: rest, nd => by
    obtain ⟨rn, nd'⟩ := List.nodup_cons.mp nd
    refine List.nodup_append.mpr ⟨?_, allPairs_nodup nd', fun a ha b hb z => ?_⟩
    · have key : ∀ l : List Str, l.Nodup → (l.map fun x => (r, x)).Nodup := fun l => by
        induction l with
        | nil => exact fun _ => List.nodup_nil
        | cons y l ih =>
          intro h
          obtain ⟨n1, n2⟩ := List.nodup_cons.mp h
          refine List.nodup_cons.mpr ⟨fun q => ?_, ih n2⟩
          obtain ⟨x, hx, e⟩ := List.mem_map.mp q
          have := (Prod.mk.inj e).2
          rw [this] at hx
          exact n1 hx
      exact key rest nd'
    · obtain ⟨x, _, e⟩ := List.mem_map.mp ha
      have := ((allPairs_mem nd').mp hb).1
      rw [← z, ← e] at this
      exact rn this
theorem count_all {pairs : List PP} {row : List Str} {sure : List PP} (nd : row.Nodup) (c : Chain pairs row) (k : Keeps row pairs) (cl : ∀ p ∈ pairs, p.1 ∈ row ∧ p.2 ∈ row) (nds : sure.Nodup) (mems : ∀ p, p ∈ sure ↔ Reach pairs p.1 p.2) :
    sure.length = row.length * (row.length - 1) / 2 := by
  rw [← allPairs_len]
  refine ((List.perm_ext_iff_of_nodup nds (allPairs_nodup nd)).mpr fun p => ?_).length_eq
  rw [mems, allPairs_mem nd]
  constructor
  · intro h
    obtain ⟨x, hx⟩ := h.last
    obtain ⟨q, hq, e1, _⟩ := reach_iff.mp h
    exact ⟨by rw [← e1]; exact (cl q hq).1, (cl _ hx).2, k.reach h⟩
  · rintro ⟨h1, h2, h3⟩
    obtain ⟨pre, post, e⟩ := List.append_of_mem h1
    have hc : Chain pairs (p.1 :: post) := fun i a b ha hb => c (pre.length + i) a b (by rw [e, List.getElem?_append_right (by omega)]; rw [show pre.length + i - pre.length = i by omega]; exact ha) (by rw [e, List.getElem?_append_right (by omega)]; rw [show pre.length + i + 1 - pre.length = i + 1 by omega]; exact hb)
    refine hc.reach p.2 ?_
    rw [e] at h2
    rcases List.mem_append.mp h2 with z | z
    · have := idx_lt_pre nd e z
      omega
    · rcases List.mem_cons.mp z with z | z
      · rw [z] at h3
        omega
      · exact z
/-! ### rings -/
theorem no_ring {pairs : List PP} {row : List Str} (k : Keeps row pairs) : ∀ ring, ¬ RingOf pairs ring := by
  rintro ring ⟨init, last, nd, hl, path, _⟩
  have down : ∀ j i a b, (init ++ [last])[i]? = some a → (init ++ [last])[i + j + 1]? = some b → row.idxOf b < row.idxOf a := fun j => by
    induction j with
    | zero => exact fun i a b ha hb => k _ (path i a b ha hb)
    | succ j ih =>
      intro i a b ha hb
      have hm : i + j + 1 < (init ++ [last]).length := by
        have := (List.getElem?_eq_some_iff.mp hb).1
        omega
      have h1 := ih i a _ ha (List.getElem?_eq_getElem hm)
      have h2 := k _ (path (i + j + 1) _ b (List.getElem?_eq_getElem hm) hb)
      exact Nat.lt_trans h2 h1
  obtain ⟨i, hi⟩ := List.mem_iff_getElem?.mp hl
  have hil := (List.getElem?_eq_some_iff.mp hi).1
  have := down (init.length - 1 - i) i last last (by rw [List.getElem?_append_left hil]; exact hi) (by rw [show i + (init.length - 1 - i) + 1 = init.length by omega]; simp)
  omega
theorem ring_right {pairs : List PP} {ring gs : List Str} (r : RingOf pairs ring) (cl : ∀ p ∈ pairs, p.1 ∈ gs ∧ p.2 ∈ gs) (ne : ∀ p ∈ pairs, p.1 ≠ p.2) : ringB ring pairs = true ∧ ring.length ≤ gs.length := by
  obtain ⟨init, last, nd, hl, path, er⟩ := r
  obtain ⟨a, b, ei⟩ := List.append_of_mem hl
  have ki : (init ++ [last]).idxOf last = a.length := by
    rw [List.idxOf_append, if_pos hl]
    exact idx_app nd ei
  have ed : (init ++ [last]).drop (a.length + 1) = b ++ [last] := by
    rw [ei]
    have : (a ++ last :: b ++ [last]) = (a ++ [last]) ++ (b ++ [last]) := by simp
    rw [this]
    have hl2 : (a ++ [last]).length = a.length + 1 := by simp
    rw [← hl2, List.drop_left]
  rw [ki, ed] at er
  have ep : (init ++ [last]) = a ++ (last :: (b ++ [last])) := by rw [ei]; simp
  have path2 : IsPath pairs (last :: (b ++ [last])) := fun i x y hx hy => path (a.length + i) x y (by rw [ep, List.getElem?_append_right (by omega)]; rw [show a.length + i - a.length = i by omega]; exact hx) (by rw [ep, List.getElem?_append_right (by omega)]; rw [show a.length + i + 1 - a.length = i + 1 by omega]; exact hy)
  have bn : b ≠ [] := fun z => by
    subst z
    exact ne _ (path2 0 last last rfl rfl) rfl
  have ndr : ring.Nodup := by
    rw [er]
    refine (List.reverse_perm _).nodup_iff.mpr ?_
    rw [ei] at nd
    have h := (List.nodup_append.mp nd).2.1
    exact ((List.perm_append_comm (l₁ := b) (l₂ := [last])).nodup_iff).mpr h
  have len : ring.length = b.length + 1 := by rw [er]; simp
  have bpos := List.length_pos_iff.mpr bn
  have rat : ∀ i, i ≤ b.length → ring[i]? = (last :: (b ++ [last]))[b.length + 1 - i]? := fun i hi => by
    rw [er, List.getElem?_reverse (by simp; omega)]
    simp only [List.length_append, List.length_cons, List.length_nil]
    rw [show b.length + 1 - i = (b.length + (0 + 1) - 1 - i) + 1 by omega, List.getElem?_cons_succ]
  have zipm : ∀ p ∈ ring.zip (ring.drop 1 ++ ring.take 1), p ∈ pairs := fun p hp => by
    obtain ⟨i, ei⟩ := List.mem_iff_getElem?.mp hp
    obtain ⟨h1, h2⟩ := List.getElem?_zip_eq_some.mp ei
    have hi := (List.getElem?_eq_some_iff.mp h1).1
    rw [rat i (by omega)] at h1
    by_cases q : i < b.length
    · rw [List.getElem?_append_left (by simp; omega), List.getElem?_drop, rat (1 + i) (by omega)] at h2
      have := path2 (b.length + 1 - (1 + i)) p.2 p.1 h2 (by rw [show b.length + 1 - (1 + i) + 1 = b.length + 1 - i by omega]; exact h1)
      exact this
    · have ie : i = b.length := by omega
      subst ie
      rw [List.getElem?_append_right (by simp; omega)] at h2
      rw [show b.length - (ring.drop 1).length = 0 by simp; omega, List.getElem?_take, if_pos (by omega), rat 0 (by omega)] at h2
      have h2' : p.2 = last := by
        have : (last :: (b ++ [last]))[b.length + 1 - 0]? = some last := by
          rw [show b.length + 1 - 0 = b.length + 1 by omega, List.getElem?_cons_succ]
          simp
        rw [this] at h2
        exact (Option.some.inj h2).symm
      have h0 : (last :: (b ++ [last]))[0]? = some p.2 := by rw [h2']; rfl
      exact path2 0 p.2 p.1 h0 (by rw [show 0 + 1 = b.length + 1 - b.length by omega]; exact h1)
  constructor
  · unfold ringB
    rw [decide_eq_true (by omega : 2 ≤ ring.length), decide_eq_true ndr, Bool.true_and, Bool.true_and, List.all_eq_true]
    exact fun p hp => decide_eq_true (zipm p hp)
  · refine nodup_len ndr fun x hx => ?_
    obtain ⟨i, hi⟩ := List.mem_iff_getElem?.mp hx
    have hil := (List.getElem?_eq_some_iff.mp hi).1
    have hil2 : i < (ring.drop 1 ++ ring.take 1).length := by simp; omega
    have hz : (ring.zip (ring.drop 1 ++ ring.take 1))[i]? = some (x, (ring.drop 1 ++ ring.take 1)[i]) := List.getElem?_zip_eq_some.mpr ⟨hi, List.getElem?_eq_getElem hil2⟩
    exact (cl _ (zipm _ (List.mem_iff_getElem?.mpr ⟨i, hz⟩))).1
end WC
/-! all that is asked of an order -/
namespace WC
open PySem
theorem nameOk_short {x : Str} (h : NameOk x) : PyData.leavesShort 8 (.str x) = true := by
  simp only [PyData.leavesShort, List.all_eq_true, decide_eq_true_eq]
  intro c hc
  have := h.2 c hc
  omega
theorem words_short : ∀ {words : List PP}, (∀ p ∈ words, NameOk p.1 ∧ NameOk p.2) → PyData.leavesShortAll 8 (words.map dP) = true
  | [], _ => rfl
  | p :: words, h => by
    show (PyData.leavesShort 8 (dP p) && PyData.leavesShortAll 8 (words.map dP)) = true
    rw [words_short fun q hq => h q (List.mem_cons_of_mem _ hq), Bool.and_true]
    show (PyData.leavesShort 8 (.str p.1) && (PyData.leavesShort 8 (.str p.2) && true)) = true
    rw [nameOk_short (h p List.mem_cons_self).1, nameOk_short (h p List.mem_cons_self).2]
    rfl
theorem words_weight : ∀ {words : List PP}, (∀ p ∈ words, NameOk p.1 ∧ NameOk p.2) → PyData.weightAll (words.map dP) ≤ 100 * words.length := by
  intro words h
  induction words with
  | nil => decide
  | cons p words ih =>
    have h1 := (h p List.mem_cons_self).1.1
    have h2 := (h p List.mem_cons_self).2.1
    have ih' := ih fun q hq => h q (List.mem_cons_of_mem _ hq)
    have e : PyData.weightAll ((p :: words).map dP) = (p.1.cps.size + 1 + (p.2.cps.size + 1 + 0)) + 1 + PyData.weightAll (words.map dP) := by
      simp only [List.map_cons, dP, PyData.weightAll, PyData.weight]
    rw [e, List.length_cons]
    omega
theorem words_shown {words : List PP} (h : ∀ p ∈ words, NameOk p.1 ∧ NameOk p.2) (l : words.length ≤ 60) : (dLP words).shown.length ≤ sizeLine := by
  have h1 := PyData.shown_le 8 (by decide) (dLP words) (words_short h)
  have h2 := words_weight h
  have h3 : (dLP words).weight = PyData.weightAll (words.map dP) := by
    unfold dLP
    rw [PyData.weight]
  rw [h3] at h1
  unfold sizeLine
  omega
section
variable {e : Ev} {row : List Str}
theorem WordIn.lt {p : PP} (nd : row.Nodup) (h : WordIn row p) : row.idxOf p.1 < row.idxOf p.2 := by
  obtain ⟨i, j, lt, h1, h2⟩ := h
  rw [idx_at nd h1, idx_at nd h2]
  exact lt
theorem WordIn.mem {p : PP} (h : WordIn row p) : p.1 ∈ row ∧ p.2 ∈ row := by
  obtain ⟨i, j, lt, h1, h2⟩ := h
  exact ⟨List.mem_iff_getElem?.mpr ⟨i, h1⟩, List.mem_iff_getElem?.mpr ⟨j, h2⟩⟩
theorem pairs_keep (G : Good e) (perm : row.Perm e.guests) {words : List PP} (hw : ∀ p ∈ words, WordIn row p) : Keeps row (e.pairs (e.way row) words) := fun p hp => by
  rcases List.mem_append.mp hp with h | h
  · exact needs_keep G perm p h
  · exact (hw p h).lt (perm.nodup_iff.mpr G.gnd)
theorem needs_in (G : Good e) (perm : row.Perm e.guests) : ∀ p ∈ e.needs (e.way row), p.1 ∈ e.guests ∧ p.2 ∈ e.guests := by
  rintro ⟨a, b⟩ hp
  obtain ⟨f, F⟩ := rowF G perm
  obtain ⟨c, d, hc, hd, _, ea, eb⟩ := need_sound G.rnd hp
  obtain ⟨h, hh, rfl⟩ := F.sur d (mem_firsts.mp hd).1
  obtain ⟨k, hk, rfl⟩ := F.sur c hc
  rw [F.has h hh] at eb
  rw [F.has k hk] at ea
  subst ea eb
  exact ⟨perm.mem_iff.mp hk, perm.mem_iff.mp hh⟩
theorem pairs_in (G : Good e) (perm : row.Perm e.guests) {words : List PP} (hw : ∀ p ∈ words, WordIn row p) : ∀ p ∈ e.pairs (e.way row) words, p.1 ∈ e.guests ∧ p.2 ∈ e.guests := fun p hp => by
  rcases List.mem_append.mp hp with h | h
  · exact needs_in G perm p h
  · exact ⟨perm.mem_iff.mp (hw p h).mem.1, perm.mem_iff.mp (hw p h).mem.2⟩
theorem pairs_chain (G : Good e) (perm : row.Perm e.guests) {words : List PP} (hf : ∀ p ∈ e.fewest row, p ∈ words) : Chain (e.pairs (e.way row) words) row := fun i a b ha hb => by
  by_cases h : (a, b) ∈ e.needs (e.way row)
  · exact List.mem_append_left _ h
  · refine List.mem_append_right _ (hf _ (List.mem_filter.mpr ⟨?_, by simpa using h⟩))
    exact List.mem_iff_getElem?.mpr ⟨i, List.getElem?_zip_eq_some.mpr ⟨ha, by rw [List.getElem?_drop, Nat.add_comm]; exact hb⟩⟩
theorem rowOk (e : Ev) (row : List Str) (G : Good e) (perm : row.Perm e.guests) : RowOk e row := by
  have nd : row.Nodup := perm.nodup_iff.mpr G.gnd
  have mm : ∀ g, g ∈ row ↔ g ∈ e.guests := fun g => perm.mem_iff
  refine ⟨way_ok G perm, way_why G perm, due_eq G perm, fun words ahead hw hl ha => ?_, fun words found hw hf o => ?_, fun words sure hw hf nds mems => ?_, fun words p hw hp => ?_⟩
  · have k := pairs_keep G perm hw
    have cl := pairs_in G perm hw
    refine ⟨cl, no_ring k, ha, fun g hg => (mm g).mpr hg, fun a b h => k.reach h, fun found o => ?_, words_shown (fun p hp => ?_) hl, G.hi, G.len⟩
    · have kf := o.keeps cl
      have fm := o.mem
      have pf : found.Perm e.guests := (List.perm_ext_iff_of_nodup o.nodup G.gnd).mpr fm
      refine ⟨fun a b h => kf.reach h, way_of_keep G perm pf fun p hp => kf p (List.mem_append_left _ hp), ?_⟩
      exact o.least row nd mm fun p hp _ _ => k p hp
    · have := (hw p hp).mem
      exact ⟨G.names _ ((mm _).mp this.1), G.names _ ((mm _).mp this.2)⟩
  · exact Chain.only o row nd mm (pairs_chain G perm hf)
  · refine count_all nd (pairs_chain G perm hf) (pairs_keep G perm hw) (fun p hp => ?_) nds mems
    have := pairs_in G perm hw p hp
    exact ⟨(mm _).mpr this.1, (mm _).mpr this.2⟩
  · have k := pairs_keep G perm hw
    have cl := pairs_in G perm hw
    have lt := k.reach hp
    have hp2 : Reach (e.pairs (e.way row) (words ++ [rvP p])) p.1 p.2 := hp.mono pairs_more
    have pin : p.1 ∈ e.guests ∧ p.2 ∈ e.guests := by
      obtain ⟨x, hx⟩ := hp.last
      obtain ⟨q, hq, e1, _⟩ := reach_iff.mp hp
      exact ⟨by rw [← e1]; exact (cl q hq).1, (cl _ hx).2⟩
    have all : ∀ q ∈ e.pairs (e.way row) (words ++ [rvP p]), q ∈ e.pairs (e.way row) words ∨ q = rvP p := fun q hq => by
      rcases List.mem_append.mp hq with h | h
      · exact .inl (List.mem_append_left _ h)
      · rcases List.mem_append.mp h with h | h
        · exact .inl (List.mem_append_right _ h)
        · exact .inr (by simpa using h)
    have cl2 : ∀ q ∈ e.pairs (e.way row) (words ++ [rvP p]), q.1 ∈ e.guests ∧ q.2 ∈ e.guests := fun q hq => by
      rcases all q hq with h | h
      · exact cl q h
      · rw [h]
        exact ⟨pin.2, pin.1⟩
    refine ⟨fun found o => ?_, fun ring r => ?_⟩
    · have kf := o.keeps cl2
      have h1 := kf.reach hp2
      have h2 := kf (rvP p) (List.mem_append_right _ (List.mem_append_right _ List.mem_cons_self))
      have h3 : found.idxOf p.2 < found.idxOf p.1 := h2
      omega
    · obtain ⟨h1, h2⟩ := ring_right r cl2 fun q hq => by
        rcases all q hq with h | h
        · intro z
          have := k q h
          rw [z] at this
          omega
        · rw [h]
          intro z
          have z' : p.2 = p.1 := z
          rw [z'] at lt
          omega
      have := G.hi
      exact ⟨h1, by omega⟩
end
end WC
namespace WC
open PySem PySem.Spec PyProof.Rows L2
theorem xm_ok {K : PySem.W.Frag} (h : xmB K = true) : OexC K (aRing K) ∧ XfC K (aRing K) ∧ PySem.W.findIn K (.ref (aRing K)) "what" = some none ∧ PySem.W.findIn K (.ref (aRing K)) "__init__" = some (some (.ref (aRingI K))) ∧ PySem.W.typeIn K (.ref (aRingI K)) = some (.type "function") ∧ PySem.W.findCls K (.type "ValueError") (.type "type") "__init__" = some (.val (.builtin "ValueError.__init__")) := by
  unfold xmB at h
  simp only [Bool.and_eq_true, decide_eq_true_eq] at h
  obtain ⟨h1, h2, h3, h4, h5, h6, h7, h8, h9⟩ := h
  have hx := h3
  unfold xfB at hx
  simp only [Bool.and_eq_true, decide_eq_true_eq] at hx
  refine ⟨⟨excCB_ok h1, h2, hx.2.2.1, h4, h5⟩, xfB_ok h3, h6, h7, h8, ?_⟩
  cases e : PySem.W.findCls K (.type "ValueError") (.type "type") "__init__" with
  | none => rw [e] at h9; cases h9
  | some o =>
    rw [e] at h9
    cases o with
    | val v =>
      cases v with
      | builtin n =>
        have h10 : n = "ValueError.__init__" := of_decide_eq_true h9
        rw [h10]
      | _ => cases h9
    | _ => cases h9
theorem tx_of {w : World} {K : PySem.W.Frag} {h : Heap} {mg : Str → Option Value} (X : K.In h) (G : h.Ns mainGlobals mg) (c : He.SaysX hfa hfn [] [] xmB w h K) : Nonempty (Tx K mg) := by
  obtain ⟨oex, xf, noW, iC, tI, vV⟩ := xm_ok c.more
  obtain ⟨fd_is_seeker, F_is_seeker⟩ := c.t.d.def_ 0 (d := d_is_seeker) rfl
  obtain ⟨fd_seekers, F_seekers⟩ := c.t.d.def_ 1 (d := d_seekers) rfl
  obtain ⟨fd_hook_of, F_hook_of⟩ := c.t.d.def_ 2 (d := d_hook_of) rfl
  obtain ⟨fd_look_goers, F_look_goers⟩ := c.t.d.def_ 3 (d := d_look_goers) rfl
  obtain ⟨fd_goes, F_goes⟩ := c.t.d.def_ 4 (d := d_goes) rfl
  obtain ⟨fd_way_of, F_way_of⟩ := c.t.d.def_ 5 (d := d_way_of) rfl
  obtain ⟨fd_is_ahead, F_is_ahead⟩ := c.t.d.def_ 6 (d := d_is_ahead) rfl
  obtain ⟨fd_why_not, F_why_not⟩ := c.t.d.def_ 7 (d := d_why_not) rfl
  obtain ⟨fd_can_be, F_can_be⟩ := c.t.d.def_ 8 (d := d_can_be) rfl
  obtain ⟨fd_look_way, F_look_way⟩ := c.t.d.def_ 9 (d := d_look_way) rfl
  obtain ⟨fd_firsts, F_firsts⟩ := c.t.d.def_ 10 (d := d_firsts) rfl
  obtain ⟨fd_needs, F_needs⟩ := c.t.d.def_ 11 (d := d_needs) rfl
  obtain ⟨fd_has_words, F_has_words⟩ := c.t.d.def_ 12 (d := d_has_words) rfl
  obtain ⟨fd_pairs_of, F_pairs_of⟩ := c.t.d.def_ 13 (d := d_pairs_of) rfl
  obtain ⟨fd_ring_of, F_ring_of⟩ := c.t.d.def_ 14 (d := d_ring_of) rfl
  obtain ⟨fd_order_by, F_order_by⟩ := c.t.d.def_ 15 (d := d_order_by) rfl
  obtain ⟨fd_sure_pairs, F_sure_pairs⟩ := c.t.d.def_ 16 (d := d_sure_pairs) rfl
  obtain ⟨fd_shows_ring, F_shows_ring⟩ := c.t.d.def_ 17 (d := d_shows_ring) rfl
  obtain ⟨fd_fewest_words, F_fewest_words⟩ := c.t.d.def_ 18 (d := d_fewest_words) rfl
  obtain ⟨fd_L_box, F_L_box⟩ := c.t.d.def_ 19 (d := d_L_box) rfl
  obtain ⟨fd_L_take, F_L_take⟩ := c.t.d.def_ 20 (d := d_L_take) rfl
  obtain ⟨fd_L_folded, F_L_folded⟩ := c.t.d.def_ 21 (d := d_L_folded) rfl
  obtain ⟨fd_L_of, F_L_of⟩ := c.t.d.def_ 22 (d := d_L_of) rfl
  obtain ⟨fd_L_names, F_L_names⟩ := c.t.d.def_ 23 (d := d_L_names) rfl
  obtain ⟨fd_L_strewn, F_L_strewn⟩ := c.t.d.def_ 24 (d := d_L_strewn) rfl
  obtain ⟨fd_L_night, F_L_night⟩ := c.t.d.def_ 25 (d := d_L_night) rfl
  obtain ⟨fd_L_seeks, F_L_seeks⟩ := c.t.d.def_ 26 (d := d_L_seeks) rfl
  obtain ⟨fd_L_went, F_L_went⟩ := c.t.d.def_ 27 (d := d_L_went) rfl
  obtain ⟨fd_L_said, F_L_said⟩ := c.t.d.def_ 28 (d := d_L_said) rfl
  obtain ⟨fd_L_has_all, F_L_has_all⟩ := c.t.d.def_ 29 (d := d_L_has_all) rfl
  obtain ⟨fd_L_ring, F_L_ring⟩ := c.t.d.def_ 30 (d := d_L_ring) rfl
  obtain ⟨fd_L_is_ring, F_L_is_ring⟩ := c.t.d.def_ 31 (d := d_L_is_ring) rfl
  obtain ⟨fd_L_ring_right, F_L_ring_right⟩ := c.t.d.def_ 32 (d := d_L_ring_right) rfl
  obtain ⟨fd_L_fewest_right, F_L_fewest_right⟩ := c.t.d.def_ 33 (d := d_L_fewest_right) rfl
  obtain ⟨fd_L_step, F_L_step⟩ := c.t.d.def_ 34 (d := d_L_step) rfl
  obtain ⟨fd_L_right, F_L_right⟩ := c.t.d.def_ 35 (d := d_L_right) rfl
  obtain ⟨fd_law, F_law⟩ := c.t.d.def_ 36 (d := d_law) rfl
  obtain ⟨fd_Ring, F_Ring⟩ := c.t.d.def_ 37 (d := d_Ring_init) rfl
  have g_is_seeker := He.glo_ok X G (c.t.d.fact 0 (f := .glo "is_seeker") rfl)
  have g_seekers := He.glo_ok X G (c.t.d.fact 1 (f := .glo "seekers") rfl)
  have g_hook_of := He.glo_ok X G (c.t.d.fact 2 (f := .glo "hook_of") rfl)
  have g_look_goers := He.glo_ok X G (c.t.d.fact 3 (f := .glo "look_goers") rfl)
  have g_goes := He.glo_ok X G (c.t.d.fact 4 (f := .glo "goes") rfl)
  have g_way_of := He.glo_ok X G (c.t.d.fact 5 (f := .glo "way_of") rfl)
  have g_is_ahead := He.glo_ok X G (c.t.d.fact 6 (f := .glo "is_ahead") rfl)
  have g_why_not := He.glo_ok X G (c.t.d.fact 7 (f := .glo "why_not") rfl)
  have g_can_be := He.glo_ok X G (c.t.d.fact 8 (f := .glo "can_be") rfl)
  have g_look_way := He.glo_ok X G (c.t.d.fact 9 (f := .glo "look_way") rfl)
  have g_firsts := He.glo_ok X G (c.t.d.fact 10 (f := .glo "firsts") rfl)
  have g_needs := He.glo_ok X G (c.t.d.fact 11 (f := .glo "needs") rfl)
  have g_has_words := He.glo_ok X G (c.t.d.fact 12 (f := .glo "has_words") rfl)
  have g_pairs_of := He.glo_ok X G (c.t.d.fact 13 (f := .glo "pairs_of") rfl)
  have g_ring_of := He.glo_ok X G (c.t.d.fact 14 (f := .glo "ring_of") rfl)
  have g_order_by := He.glo_ok X G (c.t.d.fact 15 (f := .glo "order_by") rfl)
  have g_sure_pairs := He.glo_ok X G (c.t.d.fact 16 (f := .glo "sure_pairs") rfl)
  have g_shows_ring := He.glo_ok X G (c.t.d.fact 17 (f := .glo "shows_ring") rfl)
  have g_fewest_words := He.glo_ok X G (c.t.d.fact 18 (f := .glo "fewest_words") rfl)
  have g_L_box := He.glo_ok X G (c.t.d.fact 19 (f := .glo "_law_box") rfl)
  have g_L_take := He.glo_ok X G (c.t.d.fact 20 (f := .glo "_law_take") rfl)
  have g_L_folded := He.glo_ok X G (c.t.d.fact 21 (f := .glo "_law_folded") rfl)
  have g_L_of := He.glo_ok X G (c.t.d.fact 22 (f := .glo "_law_of") rfl)
  have g_L_names := He.glo_ok X G (c.t.d.fact 23 (f := .glo "_law_names") rfl)
  have g_L_strewn := He.glo_ok X G (c.t.d.fact 24 (f := .glo "_law_strewn") rfl)
  have g_L_night := He.glo_ok X G (c.t.d.fact 25 (f := .glo "_law_night") rfl)
  have g_L_seeks := He.glo_ok X G (c.t.d.fact 26 (f := .glo "_law_seeks") rfl)
  have g_L_went := He.glo_ok X G (c.t.d.fact 27 (f := .glo "_law_went") rfl)
  have g_L_said := He.glo_ok X G (c.t.d.fact 28 (f := .glo "_law_said") rfl)
  have g_L_has_all := He.glo_ok X G (c.t.d.fact 29 (f := .glo "_law_has_all") rfl)
  have g_L_ring := He.glo_ok X G (c.t.d.fact 30 (f := .glo "_law_ring") rfl)
  have g_L_is_ring := He.glo_ok X G (c.t.d.fact 31 (f := .glo "_law_is_ring") rfl)
  have g_L_ring_right := He.glo_ok X G (c.t.d.fact 32 (f := .glo "_law_ring_right") rfl)
  have g_L_fewest_right := He.glo_ok X G (c.t.d.fact 33 (f := .glo "_law_fewest_right") rfl)
  have g_L_step := He.glo_ok X G (c.t.d.fact 34 (f := .glo "_law_step") rfl)
  have g_L_right := He.glo_ok X G (c.t.d.fact 35 (f := .glo "_law_right") rfl)
  have g_law := He.glo_ok X G (c.t.d.fact 36 (f := .glo "law") rfl)
  have g_Ring := He.glo_ok X G (c.t.d.fact 37 (f := .glo "Ring") rfl)
  have n_ValueError := He.free_ok X G (c.t.d.fact 38 (f := .free "ValueError") rfl)
  have n_abs := He.free_ok X G (c.t.d.fact 39 (f := .free "abs") rfl)
  have n_all := He.free_ok X G (c.t.d.fact 40 (f := .free "all") rfl)
  have n_any := He.free_ok X G (c.t.d.fact 41 (f := .free "any") rfl)
  have n_divmod := He.free_ok X G (c.t.d.fact 42 (f := .free "divmod") rfl)
  have n_enumerate := He.free_ok X G (c.t.d.fact 43 (f := .free "enumerate") rfl)
  have n_int := He.free_ok X G (c.t.d.fact 44 (f := .free "int") rfl)
  have n_isinstance := He.free_ok X G (c.t.d.fact 45 (f := .free "isinstance") rfl)
  have n_len := He.free_ok X G (c.t.d.fact 46 (f := .free "len") rfl)
  have n_list := He.free_ok X G (c.t.d.fact 47 (f := .free "list") rfl)
  have n_max := He.free_ok X G (c.t.d.fact 48 (f := .free "max") rfl)
  have n_min := He.free_ok X G (c.t.d.fact 49 (f := .free "min") rfl)
  have n_range := He.free_ok X G (c.t.d.fact 50 (f := .free "range") rfl)
  have n_repr := He.free_ok X G (c.t.d.fact 51 (f := .free "repr") rfl)
  have n_reversed := He.free_ok X G (c.t.d.fact 52 (f := .free "reversed") rfl)
  have n_sorted := He.free_ok X G (c.t.d.fact 53 (f := .free "sorted") rfl)
  have n_str := He.free_ok X G (c.t.d.fact 54 (f := .free "str") rfl)
  have n_tuple := He.free_ok X G (c.t.d.fact 55 (f := .free "tuple") rfl)
  have n_zip := He.free_ok X G (c.t.d.fact 56 (f := .free "zip") rfl)
  have te := He.exm_ok (c.t.d.fact 57 (f := .exm "Ring" "Ring" true) rfl)
  exact ⟨{ fd_is_seeker := fd_is_seeker, F_is_seeker := F_is_seeker, g_is_seeker := g_is_seeker, fd_seekers := fd_seekers, F_seekers := F_seekers, g_seekers := g_seekers, fd_hook_of := fd_hook_of, F_hook_of := F_hook_of, g_hook_of := g_hook_of, fd_look_goers := fd_look_goers, F_look_goers := F_look_goers, g_look_goers := g_look_goers, fd_goes := fd_goes, F_goes := F_goes, g_goes := g_goes, fd_way_of := fd_way_of, F_way_of := F_way_of, g_way_of := g_way_of, fd_is_ahead := fd_is_ahead, F_is_ahead := F_is_ahead, g_is_ahead := g_is_ahead, fd_why_not := fd_why_not, F_why_not := F_why_not, g_why_not := g_why_not, fd_can_be := fd_can_be, F_can_be := F_can_be, g_can_be := g_can_be, fd_look_way := fd_look_way, F_look_way := F_look_way, g_look_way := g_look_way, fd_firsts := fd_firsts, F_firsts := F_firsts, g_firsts := g_firsts, fd_needs := fd_needs, F_needs := F_needs, g_needs := g_needs, fd_has_words := fd_has_words, F_has_words := F_has_words, g_has_words := g_has_words, fd_pairs_of := fd_pairs_of, F_pairs_of := F_pairs_of, g_pairs_of := g_pairs_of, fd_ring_of := fd_ring_of, F_ring_of := F_ring_of, g_ring_of := g_ring_of, fd_order_by := fd_order_by, F_order_by := F_order_by, g_order_by := g_order_by, fd_sure_pairs := fd_sure_pairs, F_sure_pairs := F_sure_pairs, g_sure_pairs := g_sure_pairs, fd_shows_ring := fd_shows_ring, F_shows_ring := F_shows_ring, g_shows_ring := g_shows_ring, fd_fewest_words := fd_fewest_words, F_fewest_words := F_fewest_words, g_fewest_words := g_fewest_words, fd_L_box := fd_L_box, F_L_box := F_L_box, g_L_box := g_L_box, fd_L_take := fd_L_take, F_L_take := F_L_take, g_L_take := g_L_take, fd_L_folded := fd_L_folded, F_L_folded := F_L_folded, g_L_folded := g_L_folded, fd_L_of := fd_L_of, F_L_of := F_L_of, g_L_of := g_L_of, fd_L_names := fd_L_names, F_L_names := F_L_names, g_L_names := g_L_names, fd_L_strewn := fd_L_strewn, F_L_strewn := F_L_strewn, g_L_strewn := g_L_strewn, fd_L_night := fd_L_night, F_L_night := F_L_night, g_L_night := g_L_night, fd_L_seeks := fd_L_seeks, F_L_seeks := F_L_seeks, g_L_seeks := g_L_seeks, fd_L_went := fd_L_went, F_L_went := F_L_went, g_L_went := g_L_went, fd_L_said := fd_L_said, F_L_said := F_L_said, g_L_said := g_L_said, fd_L_has_all := fd_L_has_all, F_L_has_all := F_L_has_all, g_L_has_all := g_L_has_all, fd_L_ring := fd_L_ring, F_L_ring := F_L_ring, g_L_ring := g_L_ring, fd_L_is_ring := fd_L_is_ring, F_L_is_ring := F_L_is_ring, g_L_is_ring := g_L_is_ring, fd_L_ring_right := fd_L_ring_right, F_L_ring_right := F_L_ring_right, g_L_ring_right := g_L_ring_right, fd_L_fewest_right := fd_L_fewest_right, F_L_fewest_right := F_L_fewest_right, g_L_fewest_right := g_L_fewest_right, fd_L_step := fd_L_step, F_L_step := F_L_step, g_L_step := g_L_step, fd_L_right := fd_L_right, F_L_right := F_L_right, g_L_right := g_L_right, fd_law := fd_law, F_law := F_law, g_law := g_law, n_ValueError := n_ValueError, n_abs := n_abs, n_all := n_all, n_any := n_any, n_divmod := n_divmod, n_enumerate := n_enumerate, n_int := n_int, n_isinstance := n_isinstance, n_len := n_len, n_list := n_list, n_max := n_max, n_min := n_min, n_range := n_range, n_repr := n_repr, n_reversed := n_reversed, n_sorted := n_sorted, n_str := n_str, n_tuple := n_tuple, n_zip := n_zip, fd_Ring := fd_Ring, F_Ring := F_Ring, g_Ring := g_Ring, oex := oex, iC := iC, tI := tI, noW := noW, xf := xf, te := te, vV := vV }⟩
theorem ints_vals : ∀ {vs : List Value} {ns : List Int}, IntsAre vs ns → Vals (ns.map V.int) vs
  | _, _, .nil => .nil
  | _, _, .cons _ t h => .cons ⟨t, rfl⟩ (ints_vals h)
/-- the law called at the claim's own caller, where nothing is being shown -/
theorem callG {P : Program} {w : World} {K : PySem.W.Frag} {mg mb : PySem.Str → Option Value} {k : Nat} {fa a : Addr} {fd : FuncData} {x : PySem.Str} {sp : Sp} {s : Shared} {vs : List Value} {ns : List Int} (KX : K.In s.heap) (hns : s.heap.Ns mainGlobals mg) (hb : s.heap.Ns builtinsNs mb)
    (hbb : ∀ x : PySem.Str, x ≠ "__name__" → mb x = bootBuiltins x) (hlim : s.heap.NoLimit) (hg : s.gens = #[]) (ha : s.heap.get? a = some { cls := .type "list", data := .seq vs.toArray }) (hi : IntsAre vs ns) (hl : ns.length ≤ sizeLine) (hr : Room k callerA)
    (F : ∀ base : Heap, FnOkG P w K mg base k fa fd [x] sp) (hbind : ∀ (s : Shared) (u : Value), BindsTo s fd ⟨[u], []⟩ [(x, u)]) (hsp : ∀ H : Hp, SqL K H a (ns.map V.int) → sp [.ref a] H (fun v _ => v = .bl true) fun _ _ _ => False) :
    codeAny (model P w) callerA (.call (.ref fa) ⟨[.ref a], []⟩) (fun r s' => r = .ok (.ret (.bool true)) ∧ OldK s.heap s'.heap ∧ s'.os = s.os ∧ AllBare s'.gens) s := by
  have rv := ints_vals hi
  have lv := rv.length
  rw [List.length_map] at lv
  obtain ⟨H, hH, hS⟩ : ∃ H : Hp, (∀ b u, H b = some u → b = a ∧ u = .frz { cls := .type "list", data := .seq vs.toArray } (.lst (ns.map V.int)) ∧ K.lookup a = none) ∧ SqL K H a (ns.map V.int) := by
    cases hk : K.lookup a with
    | none =>
      refine ⟨upd (fun _ => none) a (.frz { cls := .type "list", data := .seq vs.toArray } (.lst (ns.map V.int))), fun b u h => ?_, .inl (.inr ⟨_, upd_same⟩)⟩
      by_cases q : b = a
      · subst q
        rw [upd_same] at h
        exact ⟨rfl, (Option.some.inj h).symm, rfl⟩
      · rw [upd_ne q] at h
        cases h
    | some o =>
      have e := KX a o hk
      rw [ha] at e
      have e := Option.some.inj e
      subst e
      exact ⟨fun _ => none, fun b u h => (by cases h), .inr ⟨_, vs.toArray, _, hk, rfl, rfl, rfl, by rw [List.size_toArray]; omega, rv⟩⟩
  have vis : ∀ {b : Addr} {o : Obj}, s.heap.get? b = some o → (∀ u, H b ≠ some u) → (hidT s.heap H).get? b = some o := fun e n => hidT_get e (by
    cases q : H _ with
    | none => rfl
    | some u => exact absurd q (n u))
  have nsv : ∀ {b : Addr} {m : PySem.Str → Option Value}, s.heap.Ns b m → (hidT s.heap H).Ns b m := by
    rintro b m ⟨o, es, ep, e, d, r⟩
    refine ⟨o, es, ep, vis e fun u q => ?_, d, r⟩
    have eb := (hH b u q).1
    subst eb
    have eo := Option.some.inj (ha.symm.trans e)
    subst eo
    have d' : Data.seq vs.toArray _ = Data.dict es ep := d
    cases d'
  have hok : HOk P w H s.heap := fun b u q => by
    obtain ⟨rfl, rfl, _⟩ := hH b u q
    exact ⟨ha, by rw [List.length_map]; exact hl, vs, _, rv, ha⟩
  have kin : K.In (hidT s.heap H) := fun b o e => vis (KX b o e) fun u q => by
    obtain ⟨rfl, _, n⟩ := hH b u q
    rw [n] at e
    cases e
  have mod : Mod K mg (hidT s.heap H) := ⟨kin, nsv hns, ⟨mb, nsv hb, hbb⟩, let ⟨m, h1, h2⟩ := hlim; ⟨m, nsv h1, h2⟩⟩
  have env : Env0 P w K mg (hidT s.heap H) callerA [] s H := ⟨rfl, mod, fun _ _ e => of_hidT e, Nat.le_of_eq (hidT_size _ _), trivial, fun b h => (by cases h), hok, .of_eq hg⟩
  refine codeAny_mono ((F (hidT s.heap H)).run callerA [] s H ⟨[.ref a], []⟩ [.ref a] [.ref a] _ _ rfl hr env (hbind s (.ref a)) (.cons rfl .nil) (hsp H hS)) fun r s' h => ?_
  cases r with
  | error e => exact False.elim h
  | ok fl =>
    cases fl with
    | ret u =>
      obtain ⟨v, H', os, bare, un, hok', r', q⟩ := h
      have q' : v = .bl true := q
      subst q'
      have r2 : u = Value.bool true := r'
      subst r2
      refine ⟨rfl, OldK.of_keep fun b o e => ?_, os, bare⟩
      cases z : H b with
      | none => exact un.keep b o e z (fun m => by cases m) fun m => by cases m
      | some u =>
        obtain ⟨rfl, rfl, _⟩ := hH b u z
        have e2 := (hok' b _ (un.frzs b _ _ z)).1
        rw [ha] at e
        rw [e2]
        exact e
    | _ => exact False.elim h
theorem Tx.law_call {K : PySem.W.Frag} {mg : PySem.Str → Option Value} (T : Tx K mg) (s : Shared) (u : Value) : BindsTo s T.fd_law ⟨[u], []⟩ [("_law_script", u)] :=
  FunD.bindsA (ps := ["_law_script"]) T.F_law (fun _ _ _ _ _ _ us hl => match us, hl with | [_], _ => rfl) s [u] rfl
end WC
open PySem PySem.W PySem.Calls PyProof.Rows
theorem PySem.Challenge.cw_wrongcoats_k72_whole_words_narrowed_holds : PySem.Challenge.rw_wrongcoats_k72_whole_words_narrowed.Holds := by
  refine WC.head0 ?_
  refine Att.attach_call (l := PySem.Challenge.rw_wrongcoats_k72_whole_words_narrowed) (n := 63) rfl WC.h_z fun w s₀ s₁ mg mb fa o pm cd doc a vs ns G Y ho hd hcd hmg0 hobj hints hlen hg => ?_
  obtain ⟨K, KX, c⟩ := Y
  obtain ⟨T⟩ := WC.tx_of KX G.T.g c
  have hmg : mg ("law" : PySem.Str) = some (.ref fa) := by
    rw [← WC.h_n]
    exact hmg0
  have ef : fa = He.ga K "law" := by
    have := hmg.symm.trans T.g_law
    injection this with h
    injection h
  subst ef
  exact WC.callG (k := 12) (sp := WC.sp_law K) KX G.T.g G.T.b G.T.builtins G.T.nolimit hg hobj hints (Nat.le_trans hlen (by decide)) ⟨rfl, by decide, by decide⟩ (fun base => WC.ok_law WC.rowOk T) (fun s u => T.law_call s u) fun H hS => ⟨a, ns, rfl, hS, hlen, fun _ => rfl⟩
