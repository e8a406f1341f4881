import PyProof.Rows.All
import PySem.Challenge.RW_rateplan_k84_whole_players_as_runs
import Wide.All
import OpenK.AllK
import Wide.FinOn
import HandS.ForMost
import HandS.Defaults
import HandS.HeadHook1
import HandS.HeadHook2
import HandS.HeadHook3
import HandS.HeadHook4
import KE.KStateDown
import Lean
import HandS.Head0
import HandS.Head1
import HandS.Head2
import KE.KUnpackStar
import KE.GoesEnum
import PyProof.ReprReads
import HandS.Flow
import HandS.NoneIn
import KE.KLam
import HandS.Lambda
import HandS.IsInst
import PyProof.CodeObj
import KE.KExcIs
import HandS.Walk
import HandS.MakeKwOnly
import HandS.TupAny
import HandS.Style
import HandS.Conv
import HandS.Wide
import HandS.EndTab
import HandS.HeadWalk
import HandS.EndBits
import HandS.HeadEnd
section
set_option Elab.async false
set_option linter.all false
set_option maxRecDepth 100000
set_option maxHeartbeats 4000000
/-! The text by places; what the head tells. -/
namespace Rp
open PySem PySem.Spec PyProof.Rows L2
def top (i : Nat) : Stmt := PySem.Challenge.pw_rateplan_k84_whole_players_as_runs.main.body.getD i (.Pass ⟨0, 0, 0, 0⟩)
abbrev s_is_rate : Stmt := top 2
abbrev s_rate_by : Stmt := top 3
abbrev s_seen_at : Stmt := top 4
abbrev s_look_room : Stmt := top 24
abbrev s_first_stand : Stmt := top 25
abbrev s_is_over : Stmt := top 26
abbrev s_has_room : Stmt := top 27
abbrev s_asks : Stmt := top 28
abbrev s_chosen : Stmt := top 29
abbrev s_begins : Stmt := top 30
abbrev s_played_on : Stmt := top 31
abbrev s_beat_on : Stmt := top 32
abbrev s_gone : Stmt := top 33
abbrev s_is_pace : Stmt := top 35
abbrev s_run_of : Stmt := top 45
abbrev s_law_deck : Stmt := top 50
abbrev s_law_draw : Stmt := top 51
abbrev s_law_pick : Stmt := top 52
abbrev s_law_talk : Stmt := top 53
abbrev s_law_options : Stmt := top 54
abbrev s_law_road : Stmt := top 56
abbrev s_law_player : Stmt := top 57
abbrev s_law_run : Stmt := top 58
abbrev s_law_over_all : Stmt := top 59
abbrev s_law_stalls : Stmt := top 60
abbrev s_law_by_beats : Stmt := top 61
abbrev s_law : Stmt := top 62
abbrev s_Speed_init : Stmt := inClass (top 17) 0
abbrev s_Player_init : Stmt := inClass (top 36) 0
abbrev s_Player_starts : Stmt := inClass (top 36) 1
abbrev s_Player_is_ended : Stmt := inClass (top 36) 2
abbrev s_Player_does_ask : Stmt := inClass (top 36) 3
abbrev s_Player_take : Stmt := inClass (top 36) 4
abbrev s_Player_pass_beat : Stmt := inClass (top 36) 5
abbrev s_Player_seen_now : Stmt := inClass (top 36) 6
abbrev s_Player_choose : Stmt := inClass (top 36) 8
abbrev s_Player_beat : Stmt := inClass (top 36) 9
abbrev s_Player_over : Stmt := inClass (top 36) 10
abbrev s_Player_stand_now : Stmt := inClass (top 36) 13
abbrev s_Player_gone_by : Stmt := inClass (top 36) 14
abbrev s_Player_thrown : Stmt := inClass (top 36) 15
abbrev s_Player_notes : Stmt := inClass (top 36) 16
abbrev s_Road_init : Stmt := inClass (top 40) 0
abbrev s_Road_speed_at : Stmt := inClass (top 40) 5
abbrev s_Walk_init : Stmt := inClass (top 42) 0
abbrev s_Walk_is_at_end : Stmt := inClass (top 42) 1
abbrev s_Walk_asks_here : Stmt := inClass (top 42) 2
abbrev s_Walk_choose_here : Stmt := inClass (top 42) 3
abbrev s_Walk_step_on : Stmt := inClass (top 42) 4
abbrev s_Run_init : Stmt := inClass (top 44) 0
abbrev s_Talk_init : Stmt := inClass (top 48) 0
abbrev s_Talk_len : Stmt := inClass (top 48) 1
abbrev s_Talk_many_rates : Stmt := inClass (top 48) 5
def d_is_rate : He.DefD := ⟨("is_rate", none), "is_rate", "is_rate", defArgs s_is_rate, defBody s_is_rate, defScope s_is_rate, [], []⟩
def d_rate_by : He.DefD := ⟨("rate_by", none), "rate_by", "rate_by", defArgs s_rate_by, defBody s_rate_by, defScope s_rate_by, [], []⟩
def d_seen_at : He.DefD := ⟨("seen_at", none), "seen_at", "seen_at", defArgs s_seen_at, defBody s_seen_at, defScope s_seen_at, [], []⟩
def d_look_room : He.DefD := ⟨("look_room", none), "look_room", "look_room", defArgs s_look_room, defBody s_look_room, defScope s_look_room, [], []⟩
def d_first_stand : He.DefD := ⟨("first_stand", none), "first_stand", "first_stand", defArgs s_first_stand, defBody s_first_stand, defScope s_first_stand, [], []⟩
def d_is_over : He.DefD := ⟨("is_over", none), "is_over", "is_over", defArgs s_is_over, defBody s_is_over, defScope s_is_over, [], []⟩
def d_has_room : He.DefD := ⟨("has_room", none), "has_room", "has_room", defArgs s_has_room, defBody s_has_room, defScope s_has_room, [], []⟩
def d_asks : He.DefD := ⟨("asks", none), "asks", "asks", defArgs s_asks, defBody s_asks, defScope s_asks, [], [("most", .int 30)]⟩
def d_chosen : He.DefD := ⟨("chosen", none), "chosen", "chosen", defArgs s_chosen, defBody s_chosen, defScope s_chosen, [], [("wait", .int 0)]⟩
def d_begins : He.DefD := ⟨("begins", none), "begins", "begins", defArgs s_begins, defBody s_begins, defScope s_begins, [], []⟩
def d_played_on : He.DefD := ⟨("played_on", none), "played_on", "played_on", defArgs s_played_on, defBody s_played_on, defScope s_played_on, [], []⟩
def d_beat_on : He.DefD := ⟨("beat_on", none), "beat_on", "beat_on", defArgs s_beat_on, defBody s_beat_on, defScope s_beat_on, [], []⟩
def d_gone : He.DefD := ⟨("gone", none), "gone", "gone", defArgs s_gone, defBody s_gone, defScope s_gone, [], [("begin", .int 4), ("again", .int 8), ("most", .int 30)]⟩
def d_is_pace : He.DefD := ⟨("is_pace", none), "is_pace", "is_pace", defArgs s_is_pace, defBody s_is_pace, defScope s_is_pace, [], []⟩
def d_run_of : He.DefD := ⟨("run_of", none), "run_of", "run_of", defArgs s_run_of, defBody s_run_of, defScope s_run_of, [], [("begin", .int 4), ("again", .int 8), ("most", .int 30), ("wait", .int 0), ("opens", .non)]⟩
def d_law_deck : He.DefD := ⟨("_law_deck", none), "_law_deck", "_law_deck", defArgs s_law_deck, defBody s_law_deck, defScope s_law_deck, [], []⟩
def d_law_draw : He.DefD := ⟨("_law_draw", none), "_law_draw", "_law_draw", defArgs s_law_draw, defBody s_law_draw, defScope s_law_draw, [], []⟩
def d_law_pick : He.DefD := ⟨("_law_pick", none), "_law_pick", "_law_pick", defArgs s_law_pick, defBody s_law_pick, defScope s_law_pick, [], []⟩
def d_law_talk : He.DefD := ⟨("_law_talk", none), "_law_talk", "_law_talk", defArgs s_law_talk, defBody s_law_talk, defScope s_law_talk, [], []⟩
def d_law_options : He.DefD := ⟨("_law_options", none), "_law_options", "_law_options", defArgs s_law_options, defBody s_law_options, defScope s_law_options, [], []⟩
def d_law_road : He.DefD := ⟨("_law_road", none), "_law_road", "_law_road", defArgs s_law_road, defBody s_law_road, defScope s_law_road, [], []⟩
def d_law_player : He.DefD := ⟨("_law_player", none), "_law_player", "_law_player", defArgs s_law_player, defBody s_law_player, defScope s_law_player, [], []⟩
def d_law_run : He.DefD := ⟨("_law_run", none), "_law_run", "_law_run", defArgs s_law_run, defBody s_law_run, defScope s_law_run, [], []⟩
def d_law_over_all : He.DefD := ⟨("_law_over_all", none), "_law_over_all", "_law_over_all", defArgs s_law_over_all, defBody s_law_over_all, defScope s_law_over_all, [], []⟩
def d_law_stalls : He.DefD := ⟨("_law_stalls", none), "_law_stalls", "_law_stalls", defArgs s_law_stalls, defBody s_law_stalls, defScope s_law_stalls, [], []⟩
def d_law_by_beats : He.DefD := ⟨("_law_by_beats", none), "_law_by_beats", "_law_by_beats", defArgs s_law_by_beats, defBody s_law_by_beats, defScope s_law_by_beats, [], []⟩
def d_law : He.DefD := ⟨("law", none), "law", "law", defArgs s_law, defBody s_law, defScope s_law, [], []⟩
def d_Speed_init : He.DefD := ⟨("Speed", some "__init__"), "__init__", "Speed.__init__", defArgs s_Speed_init, defBody s_Speed_init, defScope s_Speed_init, [], []⟩
def d_Player_init : He.DefD := ⟨("Player", some "__init__"), "__init__", "Player.__init__", defArgs s_Player_init, defBody s_Player_init, defScope s_Player_init, [], [("begin", .int 4), ("again", .int 8), ("most", .int 30), ("wait", .int 0)]⟩
def d_Player_starts : He.DefD := ⟨("Player", some "starts"), "starts", "Player.starts", defArgs s_Player_starts, defBody s_Player_starts, defScope s_Player_starts, [], []⟩
def d_Player_is_ended : He.DefD := ⟨("Player", some "is_ended"), "is_ended", "Player.is_ended", defArgs s_Player_is_ended, defBody s_Player_is_ended, defScope s_Player_is_ended, [], []⟩
def d_Player_does_ask : He.DefD := ⟨("Player", some "does_ask"), "does_ask", "Player.does_ask", defArgs s_Player_does_ask, defBody s_Player_does_ask, defScope s_Player_does_ask, [], []⟩
def d_Player_take : He.DefD := ⟨("Player", some "take"), "take", "Player.take", defArgs s_Player_take, defBody s_Player_take, defScope s_Player_take, [], []⟩
def d_Player_pass_beat : He.DefD := ⟨("Player", some "pass_beat"), "pass_beat", "Player.pass_beat", defArgs s_Player_pass_beat, defBody s_Player_pass_beat, defScope s_Player_pass_beat, [], []⟩
def d_Player_seen_now : He.DefD := ⟨("Player", some "seen_now"), "seen_now", "Player.seen_now", defArgs s_Player_seen_now, defBody s_Player_seen_now, defScope s_Player_seen_now, [], []⟩
def d_Player_choose : He.DefD := ⟨("Player", some "choose"), "choose", "Player.choose", defArgs s_Player_choose, defBody s_Player_choose, defScope s_Player_choose, [], []⟩
def d_Player_beat : He.DefD := ⟨("Player", some "beat"), "beat", "Player.beat", defArgs s_Player_beat, defBody s_Player_beat, defScope s_Player_beat, [], []⟩
def d_Player_over : He.DefD := ⟨("Player", some "over"), "over", "Player.over", defArgs s_Player_over, defBody s_Player_over, defScope s_Player_over, [], [("rule", .non)]⟩
def d_Player_stand_now : He.DefD := ⟨("Player", some "stand_now"), "stand_now", "Player.stand_now", defArgs s_Player_stand_now, defBody s_Player_stand_now, defScope s_Player_stand_now, [], []⟩
def d_Player_gone_by : He.DefD := ⟨("Player", some "gone_by"), "gone_by", "Player.gone_by", defArgs s_Player_gone_by, defBody s_Player_gone_by, defScope s_Player_gone_by, [], []⟩
def d_Player_thrown : He.DefD := ⟨("Player", some "thrown"), "thrown", "Player.thrown", defArgs s_Player_thrown, defBody s_Player_thrown, defScope s_Player_thrown, [], []⟩
def d_Player_notes : He.DefD := ⟨("Player", some "notes"), "notes", "Player.notes", defArgs s_Player_notes, defBody s_Player_notes, defScope s_Player_notes, [], []⟩
def d_Road_init : He.DefD := ⟨("Road", some "__init__"), "__init__", "Road.__init__", defArgs s_Road_init, defBody s_Road_init, defScope s_Road_init, [], []⟩
def d_Road_speed_at : He.DefD := ⟨("Road", some "speed_at"), "speed_at", "Road.speed_at", defArgs s_Road_speed_at, defBody s_Road_speed_at, defScope s_Road_speed_at, [], []⟩
def d_Walk_init : He.DefD := ⟨("Walk", some "__init__"), "__init__", "Walk.__init__", defArgs s_Walk_init, defBody s_Walk_init, defScope s_Walk_init, [], [("begin", .int 4), ("again", .int 8), ("most", .int 30), ("wait", .int 0), ("opens", .non)]⟩
def d_Walk_is_at_end : He.DefD := ⟨("Walk", some "is_at_end"), "is_at_end", "Walk.is_at_end", defArgs s_Walk_is_at_end, defBody s_Walk_is_at_end, defScope s_Walk_is_at_end, [], []⟩
def d_Walk_asks_here : He.DefD := ⟨("Walk", some "asks_here"), "asks_here", "Walk.asks_here", defArgs s_Walk_asks_here, defBody s_Walk_asks_here, defScope s_Walk_asks_here, [], []⟩
def d_Walk_choose_here : He.DefD := ⟨("Walk", some "choose_here"), "choose_here", "Walk.choose_here", defArgs s_Walk_choose_here, defBody s_Walk_choose_here, defScope s_Walk_choose_here, [], []⟩
def d_Walk_step_on : He.DefD := ⟨("Walk", some "step_on"), "step_on", "Walk.step_on", defArgs s_Walk_step_on, defBody s_Walk_step_on, defScope s_Walk_step_on, [], []⟩
def d_Run_init : He.DefD := ⟨("Run", some "__init__"), "__init__", "Run.__init__", defArgs s_Run_init, defBody s_Run_init, defScope s_Run_init, [], []⟩
def d_Talk_init : He.DefD := ⟨("Talk", some "__init__"), "__init__", "Talk.__init__", defArgs s_Talk_init, defBody s_Talk_init, defScope s_Talk_init, [], []⟩
def d_Talk_len : He.DefD := ⟨("Talk", some "__len__"), "__len__", "Talk.__len__", defArgs s_Talk_len, defBody s_Talk_len, defScope s_Talk_len, [], []⟩
def d_Talk_many_rates : He.DefD := ⟨("Talk", some "many_rates"), "many_rates", "Talk.many_rates", defArgs s_Talk_many_rates, defBody s_Talk_many_rates, defScope s_Talk_many_rates, [], []⟩
def fn0 : List He.DefD := [d_is_rate, d_rate_by, d_seen_at, d_look_room, d_first_stand, d_is_over, d_has_room, d_asks, d_chosen, d_begins, d_played_on, d_beat_on, d_gone, d_is_pace, d_run_of, d_law_deck, d_law_draw, d_law_pick, d_law_talk, d_law_options]
def fn1 : List He.DefD := [d_law_road, d_law_player, d_law_run, d_law_over_all, d_law_stalls, d_law_by_beats, d_law, d_Speed_init, d_Player_init, d_Player_starts, d_Player_is_ended, d_Player_does_ask, d_Player_take, d_Player_pass_beat, d_Player_seen_now, d_Player_choose, d_Player_beat, d_Player_over, d_Player_stand_now, d_Player_gone_by]
def fn2 : List He.DefD := [d_Player_thrown, d_Player_notes, d_Road_init, d_Road_speed_at, d_Walk_init, d_Walk_is_at_end, d_Walk_asks_here, d_Walk_choose_here, d_Walk_step_on, d_Run_init, d_Talk_init, d_Talk_len, d_Talk_many_rates]
def fn : List He.DefD := fn0 ++ fn1 ++ fn2
def fa0 : List He.Fa := [.glo "is_rate", .glo "rate_by", .glo "seen_at", .glo "look_room", .glo "first_stand", .glo "is_over", .glo "has_room", .glo "asks", .glo "chosen", .glo "begins", .glo "played_on", .glo "beat_on", .glo "gone", .glo "is_pace", .glo "run_of", .glo "_law_deck", .glo "_law_draw", .glo "_law_pick", .glo "_law_talk", .glo "_law_options", .glo "_law_road", .glo "_law_player", .glo "_law_run", .glo "_law_over_all", .glo "_law_stalls", .glo "_law_by_beats", .glo "law", .glo "FIRST", .glo "Speed", .cls "Speed"]
def fa1 : List He.Fa := [.mkr "Speed", .noat "Speed" "bits", .noat "Speed" "beats", .glo "Player", .cls "Player", .mkr "Player", .meth "Player" "starts", .meth "Player" "is_ended", .meth "Player" "does_ask", .meth "Player" "take", .meth "Player" "pass_beat", .meth "Player" "seen_now", .meth "Player" "choose", .meth "Player" "beat", .meth "Player" "over", .meth "Player" "stand_now", .meth "Player" "gone_by", .meth "Player" "thrown", .meth "Player" "notes", .noat "Player" "talk_told", .noat "Player" "options_told", .noat "Player" "stand_here", .noat "Player" "fetch_beats", .noat "Player" "beats_gone", .noat "Player" "beats_thrown", .noat "Player" "rate_last", .noat "Player" "speed_last", .noat "Player" "deeds_noted", .glo "Road", .cls "Road"]
def fa2 : List He.Fa := [.mkr "Road", .meth "Road" "speed_at", .noat "Road" "pieces", .glo "Walk", .cls "Walk", .mkr "Walk", .meth "Walk" "is_at_end", .meth "Walk" "asks_here", .meth "Walk" "choose_here", .meth "Walk" "step_on", .noat "Walk" "talk_walked", .noat "Walk" "chooser_asked", .noat "Walk" "limits", .noat "Walk" "waiting", .noat "Walk" "opening", .noat "Walk" "stand_here", .noat "Walk" "beat_here", .noat "Walk" "rate_last", .noat "Walk" "speed_last", .noat "Walk" "rates", .noat "Walk" "begun", .noat "Walk" "whole", .noat "Walk" "plays", .noat "Walk" "stalls", .noat "Walk" "kept", .glo "Run", .cls "Run", .mkr "Run", .noat "Run" "rates", .noat "Run" "begun"]
def fa3 : List He.Fa := [.noat "Run" "whole", .noat "Run" "plays", .noat "Run" "stalls", .noat "Run" "ended", .noat "Run" "kept", .glo "Talk", .cls "Talk", .mkr "Talk", .meth "Talk" "__len__", .meth "Talk" "many_rates", .noat "Talk" "lengths", .noat "Talk" "sizes", .free "len", .free "sum", .free "enumerate", .free "isinstance", .free "int", .free "bool", .free "tuple", .free "list", .free "range", .free "max", .free "min", .free "repr", .int "NONE" (-1), .int "AHEAD" (0), .int "PLAYS" (1), .int "STALLS" (2)]
def fa : List He.Fa := fa0 ++ fa1 ++ fa2 ++ fa3
def tf : List He.Defn := [("_law_over_all", none)]
def ex (K : PySem.W.Frag) : Bool := He.tupB K "FIRST" [.int 0, .int (-1), .int 0, .int 0, .int 0, .int 0]
end Rp
end
section
set_option Elab.async false
set_option linter.all false
set_option maxRecDepth 100000
set_option maxHeartbeats 0
/-! The top's run. -/
namespace Rp
open PySem PySem.Spec PyProof.Rows L2
abbrev R : PySem.W.OpenRow := PySem.W.OpenLaw.row PySem.Challenge.rw_rateplan_k84_whole_players_as_runs
abbrev hk : PySem.W.Hook := He.hookX 4 fa fn [] tf ex
def ob (s : PySem.W.SharedT) : He.AlX := He.obsX 4 fa fn [] tf ex (HandSHeadRun.getT s)
theorem ob_eq (s : PySem.W.SharedT) : ob s = hk.obs s.abs := He.obsX_eq (HandSHeadRun.getT_eq s)
def loose0 : List PySem.Str := ["_wall", "is_rate", "rate_by", "seen_at", "RateError", "NoBeat", "NoRoom", "NotNow", "NoRate", "NoPace", "BEGIN", "AGAIN", "MOST", "divisor_of", "Speed", "FIRST", "NONE", "AHEAD", "PLAYS", "STALLS", "look_room", "first_stand", "is_over", "has_room", "asks", "chosen", "begins", "played_on", "beat_on", "gone"]
def loose1 : List PySem.Str := ["is_pace", "Player", "turns_of", "pieces_by", "Road", "Walk", "Run", "run_of", "is_whole", "Talk", "_law_deck", "_law_draw", "_law_pick", "_law_talk", "_law_options", "_law_speed", "_law_road", "_law_player", "_law_run", "_law_over_all", "_law_stalls", "_law_by_beats"]
def loose : List PySem.Str := loose0 ++ loose1
theorem run (w : World) : HandSHeadRun.RunEq R (PySem.W.view R.prog [62]) hk ob 20000 loose w := by
  intro os
  kernel_rfl
end Rp
end
section
set_option Elab.async false
set_option linter.all false
set_option maxRecDepth 100000
set_option maxHeartbeats 4000000
/-! Rules that the layer lacks: a star in targets, sum and max of tuples, len of an own instance, repr of nested data. -/
namespace Rp
open PySem PySem.Spec PyProof.Rows L2

/-! ### a, b, *c = a tuple -/
section
variable {prog : Program} {w : World} {A : Around} {E : Value → Shared → Prop} {s : Shared}
theorem star_tup {l : Addr} {items : Array Value} {i : Nat} {Q : List Value → Shared → Prop} (hl : IsTup s.heap l items) (hh : A.handled = none) (hi : i ≤ items.size) (hz : items.size ≤ 16384)
    (h : ∀ h' tk, Heap.ExtBut s.heap.objs.size s.heap h' → Q (items.toList.take i ++ [.ref h'.objs.size]) { s with heap := h'.push { cls := .type "list", data := .seq (items.toList.drop i).toArray }, toks := tk }) :
    wpAny (model prog w) A (unpackItems (.ref l) (i + 1) (some i)) Q E s := by
  have hlt : l ≠ s.heap.objs.size := by obtain ⟨o, ho, _⟩ := hl; exact Nat.ne_of_lt (Heap.lt_size ho)
  unfold unpackItems
  refine wpAny_bind ?_
  unfold notIterableAtAll
  refine wpAny_bind (wpAny_specialOf hl.typeIs slot_tuple_iter.lookup ?_)
  refine wpAny_pure ?_
  simp only [Bool.false_eq_true, if_false]
  refine wpAny_bind (wpAny_holding (iter_tuple hl ?_))
  refine wpAny_bind (wpAny_holding (draw_tuple hlt i 0 _ _ ⟨_, Heap.get?_push_size _ rfl, rfl, rfl⟩ (hl.push _) (by omega) fun h₁ hit₁ hs₁ => ?_))
  have hl₁ : IsTup h₁ l items := (hl.push _).extBut hs₁.extBut hlt
  rw [Nat.zero_add] at hit₁
  obtain ⟨oi, hoi, _⟩ := id hit₁
  obtain ⟨ol, hol, _⟩ := id hl₁
  rw [List.drop_zero]
  have hfl : (items.toList.take i).length = i := by rw [List.length_take, Array.length_toList]; omega
  rw [if_neg (show ¬ ((items.toList.take i).length < i) by rw [hfl]; omega)]
  refine wpAny_bind (wpAny_holding (PySem.W.kun_collect (s := { s with heap := h₁ }) (T := "tuple_iterator") (.inr (.inr (.inr rfl))) (Walks.tuple (A := A.in1) hh s.heap.objs.size l hlt items) (fun j u st => st.1.typeIs) (k := i) (by omega) ⟨hit₁, hl₁⟩ (Heap.lt_size hoi) (Heap.lt_size hol) (fun h₂ tk hk => ?_) (by rw [sizeLine_eq]; omega)))
  have hrl : (items.toList.drop i).length = items.size - i := by rw [List.length_drop, Array.length_toList]
  have hm0 : i + 1 - 1 - i = 0 := by omega
  show wpAny _ _ (if (items.toList.drop i).length < i + 1 - 1 - i then _ else _) _ _ _
  rw [hm0, if_neg (by omega)]
  show wpAny _ _ (newList ((items.toList.drop i).take ((items.toList.drop i).length - 0)) >>= fun d => pure (items.toList.take i ++ [d] ++ (items.toList.drop i).drop ((items.toList.drop i).length - 0))) _ _ _
  rw [Nat.sub_zero, List.take_length, List.drop_length]
  have he : Heap.ExtBut s.heap.objs.size s.heap h₂ := fun b o hb e => hk b o hb (hs₁.extBut b o hb (Heap.get?_push_of_some _ e))
  unfold newList
  refine wpAny_bind (wpAny_newObj_type (wpAny_pure ?_) (by show (items.toList.drop i).toArray.size ≤ sizeLine; rw [List.size_toArray, hrl, sizeLine_eq]; omega))
  rw [List.append_nil]
  exact h h₂ tk he
end
def gStar (K : PySem.W.Frag) (i : Nat) (t : TGs) : TG := fun v σ H Q => ∃ a xs, v = .ref a ∧ SqT K H a xs ∧ i ≤ xs.length ∧ xs.length ≤ 1000 ∧ ∀ p, H p = none → t (xs.take i ++ [.ref p]) σ (upd H p (.lst (xs.drop i))) Q
section
variable {X : Cx} {pos : Pos}
theorem pg_star {es : List Expr} {k : Nat} {t : TGs} {i : Nat} (hc : X.calm = true) (h : PGs X es t) (hn : (assignEach es X.env).length = i + 1 := by rfl) (hst : (assignEach es X.env).findIdx? (·.1) = some i := by rfl) : PG X (.Tuple es k pos) (gStar X.K i t) := by
  refine ⟨fun pins s σ H v u Q I r hw => ?_⟩
  obtain ⟨a, xs, e1, hq, hl, hz, hw⟩ := hw
  subst e1
  cases r
  obtain ⟨its, rv, ht, hz2⟩ := I.tuple hq
  have hlen := rv.length
  rw [PyProof.Rows.assign_Tuple]
  refine wpAny_bind (wpAny_standAt ?_)
  unfold unpack
  rw [hn, hst]
  refine wpAny_bind (wpAny_holding (star_tup ht (I.ok.hd hc) (by rw [List.size_toArray]; omega) (by rw [List.size_toArray]; omega) fun h' tk hx => ?_))
  have I1 : Inv X pins σ H { s with heap := h', toks := tk } := I.kept (t' := tk) fun b o e => hx b o (Nat.ne_of_lt (Heap.lt_size e)) e
  have hf : H h'.objs.size = none := I1.hok.fresh (Nat.le_refl _)
  have I2 := I1.lnew (its := its.drop i) (t' := tk) (rv.drop i) (by rw [List.length_drop, sizeLine_eq]; omega)
  have q := hw h'.objs.size hf
  exact h.run pins _ σ _ (xs.take i ++ [.ref h'.objs.size]) _ Q I2 ((rv.take i).append (show Vals [V.ref h'.objs.size] [Value.ref h'.objs.size] from .cons rfl .nil)) q
theorem pgs_star {e : Expr} {es : List Expr} {t : TG} {u : TGs} {p : Pos} (h1 : PG X e t) (h2 : PGs X es u)
    (hs : (assignEach (.Starred e p :: es) X.env).map (·.2) = assign e X.env :: (assignEach es X.env).map (·.2) := by rfl) : PGs X (.Starred e p :: es) (gCons t u) := by
  refine ⟨fun pins s σ H vs us Q I r h => ?_⟩
  obtain ⟨v, vr, e1, h⟩ := h
  subst e1
  cases r with
  | cons r rr =>
    rw [hs]
    refine assignInOrder_cons (thn (h1.run pins s σ H _ _ _ I r h) fun _ s1 ⟨σ1, H1, I1, q1⟩ => ?_)
    exact h2.run pins s1 σ1 H1 _ _ Q I1 rr q1
/-! ### o.f as a target -/
def gFld (K : PySem.W.Frag) (to : TE) (f : Str) : TG := fun v σ H Q => to σ H fun x H2 => ∃ a C dx fs, x = .ref a ∧ H2 a = some (.ins C dx fs) ∧ Cls K C ∧ NoAttr K C f ∧ fs.length < 1000 ∧ Q σ (upd H2 a (.ins C dx (putF f v fs)))
theorem pg_fld {o : Expr} {f : Str} {to : TE} (ho : PE X o to) (ha : ∀ v, assign (.Attribute o f pos) X.env v = (do
      let ov ← holding [v] (eval o X.env)
      standAt pos.atName
      holding [v, ov] (setAttr ov f v)
      release [v, ov] []) := by intro _; rfl) : PG X (.Attribute o f pos) (gFld X.K to f) := by
  refine ⟨fun pins s σ H v u Q I r h => ?_⟩
  rw [ha]
  refine wpAny_bind (wpAny_holding (thn (ho.run pins s σ H _ I h) fun ov s1 ⟨x, H1, I1, r1, q1⟩ => ?_))
  obtain ⟨a, C, dx, fs, ex, ea, c, n, l, q⟩ := q1
  subst ex
  obtain rfl : ov = Value.ref a := r1
  refine wpAny_bind (wpAny_standAt (wpAny_bind (wpAny_holding (setattr_ok I1 ea c n l r fun s3 I3 => ?_))))
  exact wpAny_release ⟨σ, _, I3, q⟩
end
end Rp
end
section
set_option Elab.async false
set_option linter.all false
set_option maxRecDepth 100000
set_option maxHeartbeats 4000000
namespace Rp
open PySem PySem.Spec PyProof.Rows L2

/-! ### sum, max of a tuple of ints -/
section
variable {prog : Program} {w : World} {A : Around} {E : Value → Shared → Prop} {s : Shared} {l : Addr}
theorem iter_intTup {xs : Array (Int × Tok)} {Q : Value → Shared → Prop} (hl : IsTup s.heap l (intItems xs))
    (h : ∀ s₂ : Shared, s₂ = { s with heap := s.heap.push { cls := .type "tuple_iterator", data := .fields #[.ref l, .int 0 0] } } →
      (s₂.heap.IsTupleIter s.heap.objs.size l 0 ∧ s₂.heap.IsTuple l (intItems xs)) → (∀ b ∈ [s.heap.objs.size, l], b < s₂.heap.objs.size) → l ≠ s.heap.objs.size → Q (.ref s.heap.objs.size) s₂) :
    wpAny (model prog w) A (pyIter (.ref l)) Q E s := by
  have ht : s.heap.IsTuple l (intItems xs) := hl
  have hlt : l < s.heap.objs.size := by obtain ⟨_, e, _⟩ := ht; exact Heap.lt_size e
  refine wpAny_pyIter_tuple ht (h _ rfl ⟨⟨_, Heap.get?_push_size _ rfl, rfl, rfl⟩, ht.push _⟩ (fun b hb => ?_) (Nat.ne_of_lt hlt))
  show b < (s.heap.push _).objs.size
  rw [Heap.size_push]
  have e : b = s.heap.objs.size ∨ b = l := by simpa using hb
  rcases e with e | e
  · rw [e]
    exact Nat.lt_succ_self _
  · rw [e]
    exact Nat.lt_succ_of_lt hlt
theorem tup_kept {h' : Heap} (hk : ∀ b o, b ∉ [s.heap.objs.size] → (s.heap.push { cls := .type "tuple_iterator", data := .fields #[.ref l, .int 0 0] }).get? b = some o → h'.get? b = some o) :
    ∀ b o, s.heap.get? b = some o → h'.get? b = some o := fun b o e =>
  hk b o (fun hm => absurd (Heap.lt_size e) (by have z : b = s.heap.objs.size := by simpa using hm
                                                rw [z]; exact Nat.lt_irrefl _)) (Heap.get?_push_of_some _ e)
theorem sumT_raw {its : List Value} {ns : List Int} {Q : Value → Shared → Prop} (hh : A.handled = none) (hl : IsTup s.heap l its.toArray) (hi : IntsAre its ns)
    (h : ∀ h' tk t', (∀ b o, s.heap.get? b = some o → h'.get? b = some o) → Q (.int ns.sum t') { s with heap := h', toks := tk }) : wpAny (model prog w) A (call (.builtin "sum") [.ref l]) Q E s := by
  obtain ⟨xs, e⟩ := hi.allInts.items
  have hn : numsOf (intItems xs).toList = ns := by rw [← e]; exact hi.numsOf
  rw [nums_intItems] at hn
  rw [e] at hl
  refine call_sum_walkG (iter_intTup hl fun s₂ e2 st hfp hlI => ?_)
  subst e2
  refine ⟨_, _, _, _, _, _, numAt xs, rfl, Walks.tuple (A := A.in1) hh _ l hlI (intItems xs), st, hfp, (fun _ _ => intItems_at), fun h' tk t' hk => ?_⟩
  have q := h h' tk t' (tup_kept hk)
  have e3 : (intItems xs).size = xs.size := by simp [intItems]
  rw [e3, preSum_eq, List.take_of_length_le (by simp), hn]
  exact q
theorem maxT_raw {its : List Value} {ns : List Int} {Q : Value → Shared → Prop} (hh : A.handled = none) (hl : IsTup s.heap l its.toArray) (hi : IntsAre its ns) (hne : 0 < ns.length)
    (h : ∀ h' tk M t', (∀ b o, s.heap.get? b = some o → h'.get? b = some o) → M ∈ ns → (∀ a, a ∈ ns → a ≤ M) → Q (.int M t') { s with heap := h', toks := tk }) : wpAny (model prog w) A (call (.builtin "max") [.ref l]) Q E s := by
  obtain ⟨xs, e⟩ := hi.allInts.items
  have hn : numsOf (intItems xs).toList = ns := by rw [← e]; exact hi.numsOf
  rw [nums_intItems] at hn
  subst hn
  rw [e] at hl
  have hsz : 0 < xs.size := by simpa using hne
  refine call_max_walk (iter_intTup hl fun s₂ e2 st hfp hlI => ?_)
  subst e2
  have e3 : (intItems xs).size = xs.size := by simp [intItems]
  refine ⟨_, _, _, _, _, _, _, rfl, Walks.tuple (A := A.in1) hh _ l hlI (intItems xs), st, hfp, by rw [e3]; exact hsz, CmpOf.ints_gt (numAt xs) (fun _ _ => intItems_at), fun v h' tk hP hk => ?_⟩
  rw [e3] at hP
  obtain ⟨t, rfl⟩ := intItems_at hP
  obtain ⟨h1, h2⟩ := argBest_gt (numAt xs) (xs.size - 1)
  refine h h' tk _ t (tup_kept hk) ?_ fun a ha => ?_
  · rw [numAt_eq]
    exact PySem.getD_mem (by rw [List.length_map, Array.length_toList]; omega)
  · obtain ⟨j, hj, rfl⟩ := mem_getD ha
    rw [List.length_map, Array.length_toList] at hj
    rw [← numAt_eq]
    exact h2 j (by omega)
end
section
variable {X : Cx}
def rSumT (K : PySem.W.Frag) : List V → Hp → VK → Prop := fun vs H Q => ∃ (a : Addr) (ns : List Int), vs = [V.ref a] ∧ SqT K H a (ns.map V.int) ∧ Q (.int ns.sum) H
def rMaxT (K : PySem.W.Frag) : List V → Hp → VK → Prop := fun vs H Q => ∃ (a : Addr) (ns : List Int), vs = [V.ref a] ∧ SqT K H a (ns.map V.int) ∧ 0 < ns.length ∧ ∀ m, m ∈ ns → (∀ y, y ∈ ns → y ≤ m) → Q (.int m) H
theorem cr_sumT (hc : X.calm = true) : CallR X (.builtin "sum") (rSumT X.K) := by
  intro pins s σ H vs us Q I r h
  obtain ⟨a, ns, rfl, hs, q⟩ := h
  obtain ⟨its, rv, hl, _⟩ := I.tuple hs
  rw [Vals.ref1 r]
  exact sumT_raw (I.ok.hd hc) hl rv.ints fun h' tk t' hk => ⟨.int _, H, I.kept hk, ⟨_, rfl⟩, q⟩
theorem cr_maxT (hc : X.calm = true) : CallR X (.builtin "max") (rMaxT X.K) := by
  intro pins s σ H vs us Q I r h
  obtain ⟨a, ns, rfl, hs, hne, q⟩ := h
  obtain ⟨its, rv, hl, _⟩ := I.tuple hs
  rw [Vals.ref1 r]
  exact maxT_raw (I.ok.hd hc) hl rv.ints hne fun h' tk m t' hk h1 h2 => ⟨.int _, H, I.kept hk, ⟨_, rfl⟩, q m h1 h2⟩

/-! ### repr of nested data -/
def rRepr (K : PySem.W.Frag) : List V → Hp → VK → Prop := fun vs H Q => ∃ (x : Addr) (d : PyData), vs = [V.ref x] ∧ Dp K H (.ref x) d ∧ d.showable = true ∧ d.hasDict = false ∧ d.depth ≤ 60 ∧ d.shown.length ≤ sizeLine ∧ Q (.str d.shown) H
theorem cr_repr (hu : X.A.units + 64 < cLine) (hg : X.A.guards = some []) : CallR X (.builtin "repr") (rRepr X.K) := by
  intro pins s σ H vs us Q I r h
  obtain ⟨x, d, rfl, hd, hs, hx, hdp, hz, q⟩ := h
  rw [Vals.ref1 r]
  obtain ⟨as, rd⟩ := Dp.reads I d (.ref x) (.ref x) hd rfl
  exact repr_of_reads' rd hs (fun z => by rw [hx] at z; cases z) hg (by omega) (fun _ _ e => e) (fun h' u tk hk => ⟨.str _, H, I.kept hk, ⟨_, rfl⟩, q⟩) hz

/-! ### len of an own instance -/
def rLenI (K : PySem.W.Frag) (C : Addr) (sp : Sp) : List V → Hp → VK → Prop := fun vs H Q => ∃ (x dx : Addr) (fs : List (Str × V)), vs = [V.ref x] ∧ H x = some (.ins C dx fs) ∧ sp [.ref x] H (fun v H' => ∃ n : Nat, v = .int n ∧ n < 2 ^ 62 ∧ Q (.int n) H') fun _ _ _ => False
theorem cr_lenI {k : Nat} {C f : Addr} {fd : FuncData} {ps : List Str} {sp : Sp} (hr : Room (k + 1) X.A) (hm : PySem.W.findIn X.K (.ref C) "__len__" = some (some (.ref f))) (hf : PySem.W.isFn X.K (.ref f) = true)
    (F : FnOk X.prog X.w X.K X.mg X.base CX0 k f fd ps sp) (hb : Binds X.K fd ps []) : CallR X (.builtin "len") (rLenI X.K C sp) := by
  intro pins s σ H vs us Q I r h
  obtain ⟨x, dx, fs, rfl, hx, q⟩ := h
  rw [Vals.ref1 r]
  obtain ⟨mA, O, _, _, _, _⟩ := ins_get I.hok hx
  obtain ⟨od, J, _⟩ := O.look
  obtain ⟨m, hF⟩ := I.fr
  refine PySem.W.len_K hF I.ok.mod.kin J hm hf ?_
  have e0 : Env0 X.prog X.w X.K X.mg X.base X.A.in1 X.stack s H := I.env0.in1
  have hl := F.len _ _ _ _ q
  refine wpAny_call (codeAny_mono (F.run X.A.in1 X.stack s H ⟨[.ref x], []⟩ [.ref x] [.ref x] _ _ hr.in1 e0 (by
    have z := hb s [.ref x] I.kIn (by simpa using hl)
    simpa using z) (.cons rfl .nil) q) fun r s' hq => ?_)
  cases r with
  | error e => exact (show False from hq).elim
  | ok fl =>
    cases fl with
    | ret u =>
      obtain ⟨v, H', I', rv, n, ev, hn, q'⟩ := I.after hq
      subst ev
      obtain ⟨t, rfl⟩ := rv
      exact ⟨⟨by omega, by omega⟩, ⟨.int n, H', I'.tok _, ⟨_, rfl⟩, q'⟩⟩
    | next => exact False.elim hq
    | brk => exact False.elim hq
    | cont => exact False.elim hq

/-! ### try: body finally: suite, where nothing raises and the body runs through -/
theorem ps_finN {b₀ : Stmt} {bs : List Stmt} {f₀ : Stmt} {fs : List Stmt} {pos : Pos} {tb tf : TS} (hb : PSs X.nox (b₀ :: bs) tb) (hf : PSs X.nox (f₀ :: fs) tf) :
    PS X (.Try (b₀ :: bs) [] [] (f₀ :: fs) pos) (fun D σ H => tb { nx := tf D, rt := fun _ _ => False } σ H) := by
  refine ⟨fun pins s σ H D I h => ?_⟩
  refine wpAny_Try_finally (wpAny_mono (hb.run pins s σ H _ (I.wish _) h) (fun g s1 q => ?_) fun _ _ z => False.elim z)
  have q' : SP X pins { nx := tf D, rt := fun _ _ => False } g s1 := q.unwish
  cases g with
  | ret u =>
    obtain ⟨_, _, _, _, _, z⟩ := q'
    exact False.elim z
  | brk =>
    obtain ⟨_, _, _, z⟩ := q'
    exact False.elim z
  | cont =>
    obtain ⟨_, _, _, z⟩ := q'
    exact False.elim z
  | next =>
    obtain ⟨σ1, H1, I1, q1⟩ := q'
    refine wpAny_execs_nil (wpAny_mono (hf.run pins s1 σ1 H1 D (I1.wish _) q1) (fun g2 s2 q2 => ?_) fun _ _ z => False.elim z)
    have q3 : SP X pins D g2 s2 := q2.unwish
    cases g2 with
    | next => exact q3
    | ret w2 => exact q3
    | brk => exact q3
    | cont => exact q3
end
end Rp
end
section
set_option Elab.async false
set_option linter.all false
set_option maxRecDepth 100000
set_option maxHeartbeats 4000000
/-! A lambda with one parameter that holds one captured name: handed to a method by a keyword, called further in. -/
namespace Rp
open PySem PySem.Spec PyProof.Rows L2

/-- the object at f is just this -/
def ObjO (f : Addr) (o : Obj) : HO := .ext fun h => h.get? f = some o
/-- the cell at c holds v -/
def CelO (c : Addr) (v : V) : HO := .ext fun h => ∃ u, RelV v u ∧ h.IsCell c (some u)
def delH (H : Hp) (a : Addr) : Hp := fun b => if b = a then none else H b
theorem delH_same {H : Hp} {a : Addr} : delH H a a = none := by unfold delH; rw [if_pos rfl]
theorem delH_ne {H : Hp} {a b : Addr} (h : b ≠ a) : delH H a b = H b := by unfold delH; rw [if_neg h]
theorem objO_ok {P : Program} {w : World} {H : Hp} {h : Heap} {f : Addr} {o : Obj} (e : h.get? f = some o) : ObjOk P w H h f (ObjO f o) :=
  ⟨e, ⟨o, e⟩, fun h1 h2 e1 k => k _ e1⟩
theorem celO_ok {P : Program} {w : World} {H : Hp} {h : Heap} {c : Addr} {v : V} {u : Value} (r : RelV v u) (e : h.IsCell c (some u)) : ObjOk P w H h c (CelO c v) := by
  refine ⟨⟨u, r, e⟩, ?_, fun h1 h2 e1 k => ?_⟩
  · obtain ⟨o, q, _⟩ := e
    exact ⟨o, q⟩
  · obtain ⟨u1, r1, o1, q1, d1⟩ := e1
    exact ⟨u1, r1, o1, k _ q1, d1⟩
/-- an extra object is left out of what is tracked -/
theorem HOk.del {P : Program} {w : World} {H : Hp} {h : Heap} {c : Addr} {φ : Heap → Prop} (x : HOk P w H h) (hc : H c = some (.ext φ)) : HOk P w (delH H c) h := fun b u e => by
  have nb : b ≠ c := fun z => by
    rw [z, delH_same] at e
    cases e
  rw [delH_ne nb] at e
  refine (x b u e).stay (fun _ _ _ q => q) (fun d q => ?_) fun d xs q => ?_
  · rw [delH_ne fun z => by
      rw [z, hc] at q
      cases q]
    exact q
  · rw [delH_ne fun z => by
      rw [z, hc] at q
      cases q]
    exact q
/-- .. and taken in again -/
theorem HOk.undel {P : Program} {w : World} {H : Hp} {h : Heap} {c : Addr} {φ : Heap → Prop} (x : HOk P w (delH H c) h) (hc : H c = some (.ext φ)) (hn : ObjOk P w H h c (.ext φ)) : HOk P w H h := fun b u e => by
  by_cases hb : b = c
  · rw [hb] at e ⊢
    rw [hc] at e
    cases e
    exact hn
  · have e2 : delH H c b = some u := by
      rw [delH_ne hb]
      exact e
    refine (x b u e2).stay (fun _ _ _ q => q) (fun d q => ?_) fun d xs q => ?_
    · by_cases hd : d = c
      · rw [hd, delH_same] at q
        cases q
      · rw [delH_ne hd] at q
        exact q
    · by_cases hd : d = c
      · rw [hd, delH_same] at q
        cases q
      · rw [delH_ne hd] at q
        exact q
/-- an untracked object is tracked from now on -/
theorem HOk.add {P : Program} {w : World} {H : Hp} {h : Heap} {c : Addr} {o : HO} (x : HOk P w H h) (hc : H c = none) (hn : ObjOk P w (upd H c o) h c o) : HOk P w (upd H c o) h := fun b u e => by
  by_cases hb : b = c
  · rw [hb] at e ⊢
    rw [upd_same] at e
    cases e
    exact hn
  · rw [upd_ne hb] at e
    refine (x b u e).stay (fun _ _ _ q => q) (fun d q => ?_) fun d xs q => ?_
    · rw [upd_ne (ne_of_none q hc)]
      exact q
    · rw [upd_ne (ne_of_none q hc)]
      exact q

abbrev lamObj (q : Str) (params : Arguments) (body : Expr) (scope : Scope) (nm : Str) (c : Addr) (pm : Value) (c' : Addr) (ctv : Value) : Obj := PySem.W.kla_obj "<lambda>" q params body scope [(nm, c)] pm c' ctv
/-- the lambda at f: its captured name nm in the cell at c holds vp -/
structure LamAt (base : Heap) (H : Hp) (q : Str) (params : Arguments) (body : Expr) (scope : Scope) (nm : Str) (vp : V) (f c c' : Addr) : Prop where
  ob : ∃ (pm ctv : Value), H f = some (ObjO f (lamObj q params body scope nm c pm c' ctv)) ∨ base.get? f = some (lamObj q params body scope nm c pm c' ctv)
  cel : ∃ (o : Obj) (u : Value), H c = some (ObjO c o) ∧ o.data = .cell (some u) ∧ RelV vp u
  cod : H c' = some (LamX.CodeO c' q)
theorem LamAt.mono {base : Heap} {H H' : Hp} {q : Str} {params : Arguments} {body : Expr} {scope : Scope} {nm : Str} {vp : V} {f c c' : Addr} (L : LamAt base H q params body scope nm vp f c c') (e : ∀ b φ, H b = some (.ext φ) → H' b = some (.ext φ)) : LamAt base H' q params body scope nm vp f c c' := by
  obtain ⟨⟨pm, ctv, h1⟩, ⟨o, u, h2, h3, h4⟩, h5⟩ := L
  refine ⟨⟨pm, ctv, ?_⟩, ⟨o, u, e _ _ h2, h3, h4⟩, e _ _ h5⟩
  rcases h1 with h1 | h1
  · exact .inl (e _ _ h1)
  · exact .inr h1
theorem LamAt.fobj {Z : Cx} {pins : List (Addr × Obj)} {σ : L2.St} {H : Hp} {s : Shared} {q : Str} {params : Arguments} {body : Expr} {scope : Scope} {nm : Str} {vp : V} {f c c' : Addr} (L : LamAt Z.base H q params body scope nm vp f c c') (I : Inv Z pins σ H s) :
    ∃ pm ctv, s.heap.get? f = some (lamObj q params body scope nm c pm c' ctv) := by
  obtain ⟨pm, ctv, h | h⟩ := L.ob
  · obtain ⟨h2, _⟩ := I.hok f _ h
    exact ⟨pm, ctv, h2⟩
  · exact ⟨pm, ctv, I.bk f _ h⟩
abbrev lamEnv1 (q : Str) (scope : Scope) (L f c' : Addr) (nm : Str) (c : Addr) : Env := PySem.W.envX q scope L f (.ref c') [(nm, c)]
/-- the context of the lambda's body -/
def lamC (Z : Cx) (A : Around) (s : Shared) (H : Hp) (q : Str) (scope : Scope) (f c' : Addr) (nm : Str) (c : Addr) (pn : Str) : Cx where
  prog := Z.prog
  w := Z.w
  K := Z.K
  mg := Z.mg
  base := Z.base
  A := A.deeper (lamEnv1 q scope s.heap.objs.size f c' nm c)
  N := [pn, nm]
  s_0 := s
  H_0 := H
  env := lamEnv1 q scope s.heap.objs.size f c' nm c
  outer := Z.stack
  stack := lamEnv1 q scope s.heap.objs.size f c' nm c :: Z.stack
  ex := []
  fn := fun _ => false
  calm := true
  pn := []
  xe := fun _ _ => False
/-- the names of such a lambda -/
structure LamN (scope : Scope) (pn nm : Str) : Prop where
  kind : scope.kind = .function
  co : scope.isCoroutine = false
  gen : scope.isGenerator = false
  nocell : ∀ y ∈ scope.names, y.2 ≠ .cell
  only : ∀ y ∈ scope.names, y.2 = .free → y.1 = nm
  par : scope.names.lookup pn = some .local
  cap : scope.names.lookup nm = some .free
  ne : pn ≠ nm
def tCallLam (base : Heap) (i : Nat) (q : Str) (params : Arguments) (body : Expr) (scope : Scope) (nm : Str) (tb te : TE) : TE := fun σ H Q => ∃ (f c c' : Addr) (vp : V), σ[i]? = some (some (.ref f)) ∧ LamAt base H q params body scope nm vp f c c' ∧
  te σ H fun y H1 => LamAt base H1 q params body scope nm vp f c c' ∧ tb [some y, some vp] (delH H1 c) fun v H2 => H2 = delH H1 c ∧ Q v H1
section
variable {Z : Cx} {pins : List (Addr × Obj)} {σ : L2.St} {H : Hp} {s : Shared}
theorem lam_inv {A : Around} {q : Str} {params : Arguments} {body : Expr} {scope : Scope} {nm pn : Str} {vp y : V} {u : Value} {f c c' : Addr} {h₁ : Heap} {tk : Nat} (I : Inv Z pins σ H s) (N : LamN scope pn nm) (hA : A = Z.A) (hd : A.handled = none)
    (L : LamAt Z.base H q params body scope nm vp f c c') (ry : RelV y u) (hns : h₁.Ns s.heap.objs.size fun z => ([(pn, u)] : List (Str × Value)).reverse.lookup z) (kp : ∀ b o, s.heap.get? b = some o → h₁.get? b = some o) :
    Inv (lamC Z A s (delH H c) q scope f c' nm c pn) [] [some y, some vp] (delH H c) { s with heap := h₁, toks := tk } := by
  obtain ⟨oc, vu, hcel, hdc, rvu⟩ := L.cel
  obtain ⟨hoc, _, _⟩ := I.hok c _ hcel
  have hcell : s.heap.IsCell c (some vu) := ⟨oc, hoc, hdc⟩
  have hok2 : HOk Z.prog Z.w (delH H c) s.heap := HOk.del I.hok hcel
  have e0 := I.env0
  have hcell1 : h₁.IsCell c (some vu) := by
    obtain ⟨o, ho, hdt⟩ := hcell
    exact ⟨o, kp _ _ ho, hdt⟩
  have dn : ∀ {b : Addr}, H b = none → delH H c b = none := fun {b} e => by
    by_cases hb : b = c
    · rw [hb, delH_same]
    · rw [delH_ne hb]
      exact e
  have cOnly : ∀ z d, ([(nm, c)] : List (Str × Addr)).lookup z = some d → z = nm ∧ d = c := fun z d e => by
    have e2 : (match z == nm with | true => some c | false => none) = some d := e
    cases qz : (z == nm) with
    | true =>
      rw [qz] at e2
      cases e2
      exact ⟨beq_iff_eq.mp qz, rfl⟩
    | false =>
      rw [qz] at e2
      cases e2
  have cHas : ([(nm, c)] : List (Str × Addr)).lookup nm = some c := by simp
  have noA : ∀ b : Addr, b ∉ (lamC Z A s (delH H c) q scope f c' nm c pn).ex := fun b z => absurd (show b ∈ ([] : List Addr) from z) (by simp)
  subst hA
  refine ⟨⟨e0.mod, N.kind, rfl, rfl, Nat.le_refl _, fun z1 z2 d h1 h2 => ?_, fun z hz => ?_, fun z d h _ => ?_, fun _ => hd, Around.frames_deeper e0.frames, .inr ⟨rfl, rfl⟩, fun b z => absurd z (noA b), fun b o e => ?_, e0.bsz, fun b _ _ => noA b, fun b z => absurd z (noA b), e0.funs, fun b hb => dn (e0.frf b hb)⟩,
    rfl, e0.bare, Un.kept kp, ⟨_, hns, fun i z v h1 h2 h3 => ?_⟩, fun z d h => ?_, ?_, fun z d h => ?_, fun p hp => absurd (show p ∈ ([] : List (Addr × Obj)) ++ [] from hp) (by simp), hok2.kept kp, rfl⟩
  · rw [(cOnly _ _ h1).1, (cOnly _ _ h2).1]
  · have hz : scope.names.lookup z = some .cell ∨ scope.names.lookup z = some .free := hz
    rcases hz with hz | hz
    · exact absurd rfl (N.nocell _ (PySem.mem_of_lookup hz))
    · have e := N.only _ (PySem.mem_of_lookup hz) rfl
      have e : z = nm := e
      rw [e]
      exact ⟨c, cHas⟩
  · have h : false = true := h
    cases h
  · exact ⟨(e0.bs b o e).1, dn (e0.bs b o e).2⟩
  · match i, h1, h2 with
    | 0, h1, h2 =>
      have e1 : pn = z := Option.some.inj h1
      have e2 : y = v := Option.some.inj (Option.some.inj h2)
      subst e1 e2
      exact ⟨u, ry, .inl ⟨N.par, by simp⟩⟩
    | 1, h1, h2 =>
      have e1 : nm = z := Option.some.inj h1
      have e2 : vp = v := Option.some.inj (Option.some.inj h2)
      subst e1 e2
      exact ⟨vu, rvu, .inr ⟨.inr N.cap, c, cHas, hcell1⟩⟩
    | i + 2, h1, h2 =>
      have h1 : ([] : List Str)[i]? = some z := h1
      simp at h1
  · rw [(cOnly _ _ h).2]
    exact ⟨_, hcell1⟩
  · exact dn (I.hok.fresh (Nat.le_refl _))
  · rw [(cOnly _ _ h).2]
    exact delH_same
/-- x(e): the name x holds the lambda -/
theorem pe_callLam {i k : Nat} {x : Str} {q : Str} {params : Arguments} {body : Expr} {scope : Scope} {nm pn : Str} {e : Expr} {te tb : TE} {p pos : Pos} (hN : Z.N[i]? = some x) (hv : Vis Z.env.scope x) (hr : Room (k + 1) Z.A) (N : LamN scope pn nm) (he : PE Z e te)
    (hbind : ∀ (cl : List (Str × Addr)) (pm cv ctv u : Value), bindArgs (PySem.W.kla_fn "<lambda>" q params body scope cl pm cv ctv) ⟨[u], []⟩ = pure [(pn, u)])
    (hbody : ∀ (A : Around) (s : Shared) (H : Hp) (f c' c : Addr), PE (lamC Z A s H q scope f c' nm c pn) body tb)
    (hdb : (x == ("__debug__" : Str)) = false := by decide) (hcd : (x == ("__classdict__" : Str)) = false := by decide)
    (hs : starEach [e] Z.env = (false, eval e Z.env) :: starEach [] Z.env := by rfl) (hpl : (backTo pos (starEach [] Z.env)).any (·.1) = false := by rfl) :
    PE Z (.Call (.Name x p) [e] [] pos) (tCallLam Z.base i q params body scope nm tb te) := by
  refine ⟨fun pins s σ H Q I h => ?_⟩
  obtain ⟨f, c, c', vp, hσ, L0, ht⟩ := h
  refine wpAny_Call_Name_kw (thn ((pe_var (pos := p) hN hv hdb hcd).run pins s σ H (fun v H1 => v = .ref f ∧ H1 = H) I ⟨.ref f, hσ, rfl, rfl⟩) fun uf s1 ⟨v, H1, I1, r1, q1⟩ => ?_)
  obtain ⟨rfl, rfl⟩ := q1
  cases r1
  obtain ⟨pm0, ctv0, hf0⟩ := L0.fobj I1
  refine PySem.W.callWith_F ⟨_, _, _, _, hf0⟩ (thn ((pa_cons he pa_nil hs).run pos pins s1 σ _ (fun vs H2 => ∃ y, vs = [y] ∧ LamAt Z.base H2 q params body scope nm vp f c c' ∧ tb [some y, some vp] (delH H2 c) fun v H3 => H3 = delH H2 c ∧ Q v H2) I1
    (show te σ _ (fun y H2 => ∃ y', [y] = [y'] ∧ LamAt Z.base H2 q params body scope nm vp f c c' ∧ tb [some y', some vp] (delH H2 c) fun v H3 => H3 = delH H2 c ∧ Q v H2) from ?_)) fun us s2 ⟨vs, H2, I2, rv, y, ey, L, q2⟩ => ?_) hs hpl
  · have et : (fun (y : V) (H2 : Hp) => ∃ y', [y] = [y'] ∧ LamAt Z.base H2 q params body scope nm vp f c c' ∧ tb [some y', some vp] (delH H2 c) fun v H3 => H3 = delH H2 c ∧ Q v H2) = fun y H2 => LamAt Z.base H2 q params body scope nm vp f c c' ∧ tb [some y, some vp] (delH H2 c) fun v H3 => H3 = delH H2 c ∧ Q v H2 := by
      funext y H2
      refine propext ⟨fun ⟨y', e1, e2⟩ => ?_, fun e2 => ⟨y, rfl, e2⟩⟩
      cases e1
      exact e2
    rw [et]
    exact ht
  subst ey
  obtain ⟨u, rfl, ru⟩ := rv.one
  obtain ⟨pm, ctv, hf⟩ := L.fobj I2
  obtain ⟨⟨oc, ws, t, hoc, hdc, hvc⟩, _, _⟩ := I2.hok c' _ L.cod
  obtain ⟨oc2, vu2, hcel, hdc2, rvu2⟩ := L.cel
  have nofr : c ∉ frs Z.stack := fun z => by
    have e := I2.stkFree c z
    rw [hcel] at e
    cases e
  have rc : codeAny (model Z.prog Z.w) Z.A (.call (.ref f) ⟨[u], []⟩) (CR CX0 Z.stack Z.prog Z.w H2 s2 Q E0) s2 := by
    refine PySem.W.kla_callFunE hr.depth hf rfl N.co N.gen rfl ⟨c', oc, ws, t, rfl, hoc, hdc, hvc⟩ ?_
    rw [hbind]
    refine wpAny_pure (wpAny_newFunctionEnv N.nocell (fun z hz => ?_) (fun h₁ hns hsb => ⟨I2.nolimit.fresh _ hsb, ?_⟩) N.kind)
    · have e : z = (pn, u) := by simpa using hz
      rw [e]
      exact N.par
    show codeAny _ _ (.expr body (lamEnv1 q scope s2.heap.objs.size f c' nm c)) _ _
    have kp : ∀ b o, s2.heap.get? b = some o → h₁.get? b = some o := fun b o e => hsb.extBut b o (Nat.ne_of_lt (Heap.lt_size e)) (Heap.get?_push_of_some _ e)
    have J := lam_inv (tk := s2.toks + ([(pn, u)] : List (Str × Value)).length) I2 N rfl hr.hd L ru hns kp
    refine PySem.W.kla_codeExpr (wpAny_mono ((hbody Z.A s2 (delH H2 c) f c' c).run [] _ _ (delH H2 c) _ J q2) (fun w s3 hq => ?_) fun _ _ z => False.elim z)
    obtain ⟨v, H3, J3, rv3, eH, q3⟩ := hq
    subst eH
    have B : Un (frs Z.stack) [] (delH H2 c) (delH H2 c) s2.heap s3.heap := J3.base
    refine ⟨v, H2, J3.os, J3.bare, ⟨fun b o e n => B.keep b o e ?_, fun b o e n => B.slot b o e ?_, fun _ _ _ n _ => n, B.there, fun _ _ e => e, fun _ _ _ e => e, fun _ ps e => ⟨#[], by rw [e]; simp⟩⟩, HOk.undel J3.hok hcel ?_, rv3, q3⟩
    · by_cases hb : b = c
      · rw [hb, delH_same]
      · rw [delH_ne hb]
        exact n
    · by_cases hb : b = c
      · rw [hb, delH_same]
      · rw [delH_ne hb]
        exact n
    · obtain ⟨hoc2, _, _⟩ := I2.hok c _ hcel
      exact objO_ok (B.keep c oc2 hoc2 delH_same nofr (by simp))
  refine ⟨⟨_, _, _, _, hf⟩, wpAny_call (codeAny_mono rc fun r s' hq => ?_)⟩
  cases r with
  | error e => exact (show False from hq).elim
  | ok fl =>
    cases fl with
    | ret u => exact I2.after hq
    | next => exact False.elim hq
    | brk => exact False.elim hq
    | cont => exact False.elim hq
end
end Rp
end
section
set_option Elab.async false
set_option linter.all false
set_option maxRecDepth 100000
set_option maxHeartbeats 4000000
/-! o.m(e, rule=lambda ..): the lambda is made, tracked while the method runs, let go behind it. -/
namespace Rp
open PySem PySem.Spec PyProof.Rows L2
theorem HOk.del' {P : Program} {w : World} {H : Hp} {h : Heap} {c : Addr} (x : HOk P w H h) (hc : H c = none ∨ ∃ φ, H c = some (.ext φ)) : HOk P w (delH H c) h := by
  rcases hc with hc | ⟨φ, hc⟩
  · have e : delH H c = H := by
      funext b
      by_cases hb : b = c
      · rw [hb, delH_same, hc]
      · rw [delH_ne hb]
    rw [e]
    exact x
  · exact HOk.del x hc
/-- the heap in which the callee runs: H1, the lambda and its cell tracked too -/
structure LamIn (base : Heap) (H1 H2 : Hp) (f c : Addr) : Prop where
  same : Same H1 H2
  only : ∀ b o, H2 b = some o → b ≠ f → b ≠ c → H1 b = some o
  nf : H1 f = none
  nc : H1 c = none
  ne : f ≠ c
  xf : H2 f = none ∨ ∃ φ, H2 f = some (.ext φ)
def tMethLam (base : Heap) (T : List (Addr × Str)) (C : Addr) (m : Str) (sp : Sp) (j : Nat) (q : Str) (params : Arguments) (body : Expr) (scope : Scope) (nm : Str) (ta te : TE) : TE := fun σ H Q => ta σ H fun x H1 => ∃ a dx fs, x = .ref a ∧ H1 a = some (.ins C dx fs) ∧ fs.lookup m = none ∧
  te σ H1 fun y H2 => LamX.Tabs T H2 ∧ ∃ vp, σ[j]? = some (some vp) ∧ ∀ (H3 H4 : Hp) (f c c' : Addr), LamX.ExtN H2 H3 → LamX.Tabs T H3 → LamIn base H3 H4 f c → LamAt base H4 q params body scope nm vp f c c' →
    sp [.ref a, y, .ref f] H4 (fun v H5 => (∀ b φ, H4 b = some (.ext φ) → H5 b = some (.ext φ)) ∧ ((H4 f = none → H5 f = none) → Q v (delH (delH H5 c) f))) E0
section
variable {X : Cx} {k j : Nat} {C g cc P : Addr} {fd : FuncData} {ps : List Str} {m kw nm : Str} {sp : Sp} {T : List (Addr × Str)} {params : Arguments} {body : Expr} {scope : Scope} {o e : Expr} {ta te : TE} {apos pos lpos kpos : Pos}
theorem pe_methLam {pl : Sem Bool} (he : PE X o ta) (cl : Cls X.K C) (hm : Meth X.K C m g) (F : FnOk X.prog X.w X.K X.mg X.base CX0 k g fd ps sp) (hr : Room k X.A)
    (hb : ∀ (s : Shared) (u1 u2 u3 : Value), BindsTo s fd ⟨[u1, u2], [(kw, u3)]⟩ (ps.zip [u1, u2, u3])) (ha : PE X e te)
    (TB : LamX.TabB X.base X.mg cc P) (hcode : X.env.code = .ref cc) (hmT : (P, X.env.qual ++ "<lambda>") ∈ T) (hu : ∀ p ∈ T, p.1 = P → p.2 = X.env.qual ++ "<lambda>") (hdef : defaultsOf params X.env = ([], []))
    (hfree : ∀ y ∈ scope.names, y.2 = .free → y.1 = nm) (hcell : X.env.scope.names.lookup nm = some .cell) (hfn : X.fn nm = true) (hclo : ∀ cells : List (Str × Addr), cloFrom cells scope.names [] = [(nm, (cells.lookup nm).getD 0)]) (hNj : X.N[j]? = some nm)
    (hst : starEach [e] X.env = (false, eval e X.env) :: starEach [] X.env := by rfl)
    (hpl : ((backTo pos (starEach [e] X.env)).any (·.1) || (backToKw pos (keywordEach [⟨some kw, .Lambda params body scope lpos, kpos⟩] X.env)).any (·.1.isNone)) = false := by rfl)
    (hall : (backToKw pos (keywordEach [⟨some kw, .Lambda params body scope lpos, kpos⟩] X.env)).all (·.1.isSome) = true := by rfl)
    (hks : (backToKw pos (keywordEach [⟨some kw, .Lambda params body scope lpos, kpos⟩] X.env)).filterMap (·.1) = [kw] := by rfl)
    (hkv : (backToKw pos (keywordEach [⟨some kw, .Lambda params body scope lpos, kpos⟩] X.env)).map (·.2) = [(do let v ← eval (.Lambda params body scope lpos) X.env; standAt pos; pure v)] := by rfl)
    (ht : eval (.Call (.Attribute o m apos) [e] [⟨some kw, .Lambda params body scope lpos, kpos⟩] pos) X.env = (do
      let ov ← eval o X.env
      standAt apos.atName
      let (f, first) ← holding [ov] (getMethod ov m pl)
      callWith pos f first (backTo pos (starEach [e] X.env)) (backToKw pos (keywordEach [⟨some kw, .Lambda params body scope lpos, kpos⟩] X.env))) := by rfl) :
    PE X (.Call (.Attribute o m apos) [e] [⟨some kw, .Lambda params body scope lpos, kpos⟩] pos) (tMethLam X.base T C m sp j (X.env.qual ++ "<lambda>") params body scope nm ta te) := by
  refine ⟨fun pins s σ H Q I h => ?_⟩
  refine PySem.W.methodCall_KW (pl := pl) (thn (he.run pins s σ H _ I h) fun u s1 ⟨x, H1, I1, rx, a, dx, fs, ex, ea, l, q⟩ => ?_) ht
  subst ex
  obtain rfl : u = Value.ref a := rx
  refine getmeth_ok I1 ea cl hm l ?_
  have eA : ∀ R : V → Hp → Prop, te σ H1 R → tCons te tNil σ H1 (fun vs H2 => ∃ y, vs = [y] ∧ R y H2) := fun R z => by
    have er : (fun (y : V) (H2 : Hp) => ∃ y', [y] = [y'] ∧ R y' H2) = R := by
      funext y H2
      refine propext ⟨fun ⟨y', e1, e2⟩ => ?_, fun e2 => ⟨y, rfl, e2⟩⟩
      cases e1
      exact e2
    show te σ H1 (fun y H2 => ∃ y', [y] = [y'] ∧ R y' H2)
    rw [er]
    exact z
  refine PySem.W.callWith_KW (first := [.ref a]) (h₀ := X.base) I1.ok.mod.kin hm.kp hall (thn ((pa_cons ha pa_nil hst).run pos pins s1 σ H1 _ I1 (eA _ q)) fun us s2 ⟨vs, H2, I2, r, y, ey, hT, vp, hvp, q2⟩ => ?_) hpl hst
  subst ey
  obtain ⟨uy, rfl, ruy⟩ := r.one
  rw [hkv, hks]
  have hfr : ∀ z ∈ scope.names, z.2 = .free → ∃ d, X.env.cells.lookup z.1 = some d := fun z hz ez => by
    rw [hfree z hz ez]
    exact I2.ok.has nm (.inl hcell)
  refine wpAny_evalAll_cons (wpAny_bind (LamX.lam_make2 I2 TB hcode hmT hu hT hdef hfr fun f c' pm ctv H3 s3 I3 eN T3 hf hfn0 hffr hco => ?_))
  refine wpAny_bind (wpAny_standAt (wpAny_pure (wpAny_evalAll_nil ⟨I3.kIn, ?_⟩)))
  -- the captured cell
  obtain ⟨c, hc⟩ := I3.ok.has nm (.inl hcell)
  rw [hclo, hc] at hf
  have hf : s3.heap.get? f = some (lamObj (X.env.qual ++ "<lambda>") params body scope nm c pm c' ctv) := hf
  obtain ⟨mL, hnL, hlL⟩ := I3.loc
  obtain ⟨up, rup, lk⟩ := hlL j nm vp hNj hvp (.inr (.inl hcell))
  have hcel : s3.heap.IsCell c (some up) := by
    rcases lk with ⟨k1, _⟩ | ⟨_, d, e1, e2⟩
    · have k2 : X.env.scope.names.lookup nm = some .local := k1
      rw [hcell] at k2
      cases k2
    · rw [hc] at e1
      cases e1
      exact e2
  obtain ⟨oc, hoc, hdc⟩ := hcel
  have nc : H3 c = none := I3.freeC nm c hc
  have cge : X.s_0.heap.objs.size ≤ c := I3.ok.cab nm c hfn hc
  have cb : X.base.get? c = none := Heap.get?_none_of_le (Nat.le_trans I3.ok.bsz cge)
  have cfr : c ∉ frs X.stack := fun z => by
    rcases List.mem_cons.mp (I3.stkSub c z) with e | e
    · exact I3.cne nm c hc e
    · obtain ⟨_, o1, ho1, _⟩ := I3.ok.funs.mem e
      exact absurd (Nat.lt_of_lt_of_le (Heap.lt_size ho1) cge) (Nat.lt_irrefl _)
  have nfc : f ≠ c := fun z => by
    rw [z, hoc] at hf
    have e1 := Option.some.inj hf
    rw [e1] at hdc
    cases hdc
  -- the heap of the callee
  have key : ∃ H4 : Hp, LamIn X.base H3 H4 f c ∧ LamAt X.base H4 (X.env.qual ++ "<lambda>") params body scope nm vp f c c' ∧ Env0 X.prog X.w X.K X.mg X.base X.A X.stack s3 H4 ∧
      (H4 f = none ∨ H4 f = some (ObjO f (lamObj (X.env.qual ++ "<lambda>") params body scope nm c pm c' ctv))) ∧ H4 c = some (ObjO c oc) := by
    have e3 := I3.env0
    have hc' : ∀ H4 : Hp, H4 c' = H3 c' → H4 c' = some (LamX.CodeO c' (X.env.qual ++ "<lambda>")) := fun H4 z => z.trans hco
    cases qb : X.base.get? f with
    | some o1 =>
      have e1 := I3.bk f o1 qb
      rw [hf] at e1
      have e2 := Option.some.inj e1
      subst e2
      have neC : c' ≠ c := ne_of_none hco nc
      refine ⟨upd H3 c (ObjO c oc), ⟨fun b u1 z => ?_, fun b u1 z _ h2 => ?_, hfn0, nc, nfc, .inl ?_⟩, ⟨⟨pm, ctv, .inr qb⟩, ⟨oc, up, upd_same, hdc, rup⟩, hc' _ (upd_ne neC)⟩, ⟨e3.frames, e3.mod, fun b u1 z => ⟨(e3.bs b u1 z).1, ?_⟩, e3.bsz, e3.funs, fun b z => ?_, HOk.add e3.hok nc (objO_ok hoc), e3.bare⟩, .inl ?_, upd_same⟩
      · rw [upd_ne (ne_of_none z nc)]
        exact z
      · rw [upd_ne h2] at z
        exact z
      · rw [upd_ne nfc]
        exact hfn0
      · rw [upd_ne fun h => by rw [h, cb] at z; cases z]
        exact (e3.bs b u1 z).2
      · rw [upd_ne fun h => cfr (by rw [← h]; exact z)]
        exact e3.frf b z
      · rw [upd_ne nfc]
        exact hfn0
    | none =>
      have nf2 : upd H3 c (ObjO c oc) f = none := by
        rw [upd_ne nfc]
        exact hfn0
      have neC : c' ≠ c := ne_of_none hco nc
      have neF : c' ≠ f := ne_of_none hco hfn0
      refine ⟨upd (upd H3 c (ObjO c oc)) f (ObjO f (lamObj (X.env.qual ++ "<lambda>") params body scope nm c pm c' ctv)), ⟨fun b u1 z => ?_, fun b u1 z h1 h2 => ?_, hfn0, nc, nfc, .inr ⟨_, upd_same⟩⟩, ⟨⟨pm, ctv, .inl upd_same⟩, ⟨oc, up, ?_, hdc, rup⟩, hc' _ ?_⟩,
        ⟨e3.frames, e3.mod, fun b u1 z => ⟨(e3.bs b u1 z).1, ?_⟩, e3.bsz, e3.funs, fun b z => ?_, HOk.add (HOk.add e3.hok nc (objO_ok hoc)) nf2 (objO_ok hf), e3.bare⟩, .inr upd_same, ?_⟩
      · rw [upd_ne (ne_of_none z hfn0), upd_ne (ne_of_none z nc)]
        exact z
      · rw [upd_ne h1, upd_ne h2] at z
        exact z
      · rw [upd_ne nfc.symm, upd_same]
      · rw [upd_ne neF, upd_ne neC]
      · have h1 : b ≠ f := fun h => by
          rw [h, qb] at z
          cases z
        have h2 : b ≠ c := fun h => by
          rw [h, cb] at z
          cases z
        rw [upd_ne h1, upd_ne h2]
        exact (e3.bs b u1 z).2
      · rw [upd_ne fun h => hffr (by rw [← h]; exact z), upd_ne fun h => cfr (by rw [← h]; exact z)]
        exact e3.frf b z
      · rw [upd_ne nfc.symm, upd_same]
  obtain ⟨H4, LI, LA, e4, hf4, hc4⟩ := key
  have q3 := q2 H3 H4 f c c' eN T3 LI LA
  refine wpAny_call (codeAny_mono (F.run X.A X.stack s3 H4 ⟨[.ref a, uy], [(kw, .ref f)]⟩ [.ref a, uy, .ref f] [.ref a, y, .ref f] _ E0 hr e4 (hb s3 _ _ _) (.cons rfl (.cons ruy (.cons rfl .nil))) q3) fun r s' hq => ?_)
  cases r with
  | error e => exact (show False from hq).elim
  | ok fl =>
    cases fl with
    | next => exact False.elim hq
    | brk => exact False.elim hq
    | cont => exact False.elim hq
    | ret u =>
      obtain ⟨v, H5, os, bare, un, hok5, rv, kx, q5⟩ := hq
      have ec5 : H5 c = some (ObjO c oc) := kx c _ hc4
      have ef5 : H5 f = H4 f := by
        rcases hf4 with z | z
        · rw [z]
          exact un.free f _ hf z (by simp)
        · rw [z]
          exact kx f _ z
      have hoc5 : s'.heap.get? c = some oc := (hok5 c _ ec5).1
      have hf5 : s'.heap.get? f = some (lamObj (X.env.qual ++ "<lambda>") params body scope nm c pm c' ctv) := by
        rcases hf4 with z | z
        · exact un.keep f _ hf z hffr (by simp)
        · rw [z] at ef5
          exact (hok5 f _ ef5).1
      have h4n : ∀ b, H3 b = none → b ≠ f → b ≠ c → H4 b = none := fun b z h1 h2 => by
        cases qq : H4 b with
        | none => rfl
        | some u1 =>
          rw [LI.only b u1 qq h1 h2] at z
          cases z
      have dd : ∀ b, b ≠ f → b ≠ c → delH (delH H5 c) f b = H5 b := fun b h1 h2 => by rw [delH_ne h1, delH_ne h2]
      have ddn : ∀ b, (b = f ∨ b = c) → delH (delH H5 c) f b = none := fun b hbb => by
        by_cases h1 : b = f
        · rw [h1, delH_same]
        · rw [delH_ne h1]
          rcases hbb with h2 | h2
          · exact absurd h2 h1
          · rw [h2, delH_same]
      have nn : ∀ b u1, H3 b = some u1 → b ≠ f ∧ b ≠ c := fun b u1 z => ⟨ne_of_none z hfn0, ne_of_none z nc⟩
      have okD : HOk X.prog X.w (delH (delH H5 c) f) s'.heap := by
        refine HOk.del' (HOk.del hok5 ec5) ?_
        rw [delH_ne nfc, ef5]
        rcases hf4 with z | z
        · exact .inl z
        · exact .inr ⟨_, z⟩
      have unD : Un (frs X.stack) [] H3 (delH (delH H5 c) f) s3.heap s'.heap := by
        refine ⟨fun b ob z n hb hx => ?_, fun b ob z n hb hx => ?_, fun b ob z n hx => ?_, fun b ob z hx => un.there b ob z hx, fun b xs z => ?_, fun b ob u1 z => ?_, fun b qs z => ?_⟩
        · by_cases h1 : b = f
          · rw [h1, hf] at z
            rw [h1, hf5]
            exact z
          · by_cases h2 : b = c
            · rw [h2, hoc] at z
              rw [h2, hoc5]
              exact z
            · exact un.keep b ob z (h4n b n h1 h2) hb hx
        · have h1 : b ≠ f := fun h => hffr (by rw [← h]; exact hb)
          have h2 : b ≠ c := fun h => cfr (by rw [← h]; exact hb)
          exact un.slot b ob z (h4n b n h1 h2) hb hx
        · by_cases h1 : b = f
          · exact ddn b (.inl h1)
          · by_cases h2 : b = c
            · exact ddn b (.inr h2)
            · rw [dd b h1 h2]
              exact un.free b ob z (h4n b n h1 h2) hx
        · obtain ⟨h1, h2⟩ := nn b _ z
          rw [dd b h1 h2]
          exact un.tups b xs (LI.same _ _ z)
        · obtain ⟨h1, h2⟩ := nn b _ z
          rw [dd b h1 h2]
          exact un.frzs b ob u1 (LI.same _ _ z)
        · obtain ⟨h1, h2⟩ := nn b _ z
          rw [dd b h1 h2]
          exact un.tbls b qs (LI.same _ _ z)
      exact ⟨v, _, I3.call' os unD okD bare (fun b z => absurd z (by simp)), rv, q5 fun z => un.free f _ hf z (by simp)⟩
end
end Rp
end
section
set_option Elab.async false
set_option linter.all false
set_option maxRecDepth 100000
set_option maxHeartbeats 4000000
/-! enumerate of a tuple; isinstance of a function. -/
namespace Rp
open PySem PySem.Spec PyProof.Rows L2
open AutoSeq1 (wpAny_loadPart')

theorem meets_enumT {v : Value} {o : Obj} {H : Heap → Prop} (B : Begins v o H) :
    Meets (Builtin.«enumerate.__new__» ⟨[.type "enumerate", v], []⟩) (fun _ R s => H s.heap ∧
      R (.ok (.ret (.ref (s.heap.push o).objs.size))) { s with heap := (s.heap.push o).push { cls := .type "enumerate", data := .fields #[.none, .bool false, .ref s.heap.objs.size, rawInt 0, .none, .none] } }) :=
  .of_wp fun prog w A R s h => by
    obtain ⟨hp, g, d, tk, os⟩ := s
    obtain ⟨h1, h2⟩ := h
    have hsub := sub_enumerate
    have q1 : ∀ {A' : Around} {E : Value → Shared → Prop} {Q : Value → Shared → Prop}, Q (.ref hp.objs.size) ⟨hp.push o, g, d, tk, os⟩ → wpAny (model prog w) A' (pyIter v) Q E ⟨hp, g, d, tk, os⟩ :=
      fun q => B.iter prog w _ _ ⟨hp, g, d, tk, os⟩ _ h1 q
    wp_walk using q1
    refine wpAny_stack_any fun st => wpAny_pure ?_
    split
    · rename_i c _ _ _ _ _
      cases (c == Value.type "enumerate")
      · wp_walk using q1
        exact ⟨_, rfl, h2⟩
      · wp_walk using q1
        exact ⟨_, rfl, h2⟩
    · wp_walk using q1
      exact ⟨_, rfl, h2⟩
theorem call_enumT {prog : Program} {w : World} {A : Around} {E : Value → Shared → Prop} {s : Shared} {l : Addr} {items : Array Value} {Q : Value → Shared → Prop} (hl : s.heap.IsTuple l items)
    (h : ∀ h', IsEnum h' (s.heap.objs.size + 1) s.heap.objs.size 0 .none → h'.IsTupleIter s.heap.objs.size l 0 → h'.objs.size = s.heap.objs.size + 2 →
      (∀ b o, s.heap.get? b = some o → h'.get? b = some o) → Q (.ref (s.heap.objs.size + 1)) { s with heap := h' }) :
    wpAny (model prog w) A (call (.type "enumerate") [.ref l]) Q E s := by
  refine callType_new F.called_enumerate (by decide) (F.typeCall_enumerate_1 _) (F.newCall_enumerate_1 _) (fun obj => F.args_object_init_2 obj _) F.entry_enumerate_new
    (meets_enumT (begins_tuple l items)) ⟨hl, ?_⟩
  have hz : (s.heap.push { cls := .type "tuple_iterator", data := .fields #[.ref l, .int 0 0] }).objs.size = s.heap.objs.size + 1 := Heap.size_push ..
  show _ ∧ _
  rw [hz]
  have he : IsEnum ((s.heap.push { cls := .type "tuple_iterator", data := .fields #[.ref l, .int 0 0] }).push
      { cls := .type "enumerate", data := .fields #[.none, .bool false, .ref s.heap.objs.size, rawInt 0, .none, .none] }) (s.heap.objs.size + 1) s.heap.objs.size 0 .none := by
    have z := Heap.get?_push_size (s.heap.push { cls := .type "tuple_iterator", data := .fields #[.ref l, .int 0 0] })
      (o := { cls := .type "enumerate", data := .fields #[.none, .bool false, .ref s.heap.objs.size, rawInt 0, .none, .none] }) rfl
    rw [hz] at z
    exact z
  exact ⟨⟨_, he, rfl⟩, h _ he ⟨_, Heap.get?_push_of_some _ (Heap.get?_push_size _ rfl), rfl, rfl⟩ (by rw [Heap.size_push, hz]) fun b o x => Heap.get?_push_of_some _ (Heap.get?_push_of_some _ x)⟩

/-- the tuple at a, each item in a new pair -/
def IteT (K : PySem.W.Frag) (a : Addr) : It :=
  ⟨fun i H => ∃ (xs : List V) (x : V), SqT K H a xs ∧ xs[i]? = some x, fun i H v H' => ∃ T x, v = .ref T ∧ H T = none ∧ H' = upd H T (.tup [.int (i : Nat), x]) ∧ ∀ xs, SqT K H a xs → xs[i]? = some x, fun i H => ∃ xs : List V, SqT K H a xs ∧ xs.length = i⟩
theorem turn_enumT {P : Program} {w : World} {K : PySem.W.Frag} {elts : List Expr} {kk : Nat} {tpos : Pos} (a e it : Addr) (hai : a ≠ it) (hae : e ≠ a) :
    Turn P w K (.Tuple elts kk tpos) (IteT K a) [e, it] e (fun i h => (∃ old, IsEnum h e it ((i : Nat) : Int) old) ∧ h.IsTupleIter it a i ∧ e ≠ it) where
  mem := by simp
  obj := fun i h st b hb => by
    obtain ⟨⟨old, he⟩, ⟨o, ho, hc, hd⟩, _⟩ := st
    have e' : b = e ∨ b = it := by simpa using hb
    rcases e' with z | z
    · rw [z]
      exact ⟨_, he, fun v q => nomatch q⟩
    · rw [z]
      exact ⟨o, ho, fun v q => by rw [hd] at q; cases q⟩
  keep := fun i h h' st k => let ⟨⟨old, he⟩, hi, hne⟩ := st; ⟨⟨old, k e (by simp) _ he⟩, hi.at fun o q => k it (by simp) o q, hne⟩
  item := by
    intro X hP hw hK hc i pins s σ H E I hf st hg
    subst hP hw hK
    obtain ⟨⟨old, he⟩, hit, hne⟩ := st
    obtain ⟨xs, x, hq, hx⟩ := hg
    obtain ⟨its, rv, p, hz⟩ := I.tuple hq
    obtain ⟨u, hu, ru⟩ := rv.get hx
    have hel : e < s.heap.objs.size := Heap.lt_size he
    have hil : it < s.heap.objs.size := by obtain ⟨_, q, _⟩ := hit; exact Heap.lt_size q
    have hlt : i < its.toArray.size := by
      have z := (List.getElem?_eq_some_iff.mp hu).1
      simpa using z
    have pT : s.heap.IsTuple a its.toArray := p
    refine wpAny_pyNext_enum_itemC (Draws.tuple (A := X.A.in1) (show X.A.in1.handled = none from I.ok.hd hc) it a hai its.toArray) he ⟨hit, pT⟩ hlt hne (by simp [hne, hae]) fun v h' tk hP ho hst' hT hsz hk => ?_
    have ev : v = u := by
      have z : its.toArray[i]? = some v := hP
      have z2 : its.toArray[i]? = some u := by simpa using hu
      rw [z2] at z
      exact (Option.some.inj z).symm
    subst ev
    refine ⟨_, rfl, wpAny_letOwnedTupleGo_enum (s := { s with heap := h', toks := tk + 1 }) ho fun h'' he' sb => ?_⟩
    have hT2 : h''.get? s.heap.objs.size = some { cls := .type "tuple", data := .seq #[.int i tk, v] } := (sb.2 _ (Nat.ne_of_gt hel)).trans hT
    have new : ObjOk X.prog X.w (upd H s.heap.objs.size (.tup [.int (i : Nat), x])) h'' s.heap.objs.size (.tup [.int (i : Nat), x]) :=
      ⟨by show 2 ≤ sizeLine; decide, [.int i tk, v], .cons ⟨_, rfl⟩ (.cons ru .nil), ⟨_, hT2, rfl, _, rfl⟩⟩
    have I1 : Inv X pins σ (upd H s.heap.objs.size (.tup [.int (i : Nat), x])) { s with heap := h'', toks := tk + 1 } :=
      I.turnedNew (ch := [e, it]) (fun b ob hb q => (sb.2 b (fun z => hb (by simp [z]))).trans (hk b ob (fun z => hb (by simp [z])) (fun z => hb (by simp [z])) q)) hf (Nat.le_refl _) new
    refine ⟨.ref s.heap.objs.size, _, I1, rfl, ⟨_, x, rfl, I.hok.fresh (Nat.le_refl _), rfl, fun ys hy => by rw [I.tuple_inj hy hq]; exact hx⟩, ⟨⟨v, ?_⟩, hst'.1.at fun o q => (sb.2 it (Ne.symm hne)).trans q, hne⟩, fun b hb => ?_⟩
    · have e1 : ((i + 1 : Nat) : Int) = (i : Int) + 1 := by omega
      rw [e1]
      exact he'
    · have hb' : b < s.heap.objs.size := by
        have e' : b = e ∨ b = it := by simpa using hb
        rcases e' with z | z
        · rw [z]; exact hel
        · rw [z]; exact hil
      rw [upd_ne (Nat.ne_of_lt hb')]
      exact (hf b hb).1
  done := by
    intro X hP hw hK hc i pins s σ H E I hf st hg
    subst hP hw hK
    obtain ⟨⟨old, he⟩, hit, hne⟩ := st
    obtain ⟨xs, hq, hx⟩ := hg
    obtain ⟨its, rv, p, hz⟩ := I.tuple hq
    obtain ⟨f0, f1, f2, f3, f4, f5⟩ := hf it (by simp)
    have hl := rv.length
    have pT : s.heap.IsTuple a its.toArray := p
    have en : i = its.toArray.size := by
      rw [List.size_toArray, ← hl]
      exact hx.symm
    rw [en] at hit he
    exact wpAny_pyNext_enum_endD (Draws.tuple (A := X.A.in1) (show X.A.in1.handled = none from I.ok.hd hc) it a hai its.toArray) he ⟨hit, pT⟩ fun h' eb => ⟨rfl, I.turned (t' := s.toks) (fun b o hb q => eb b o hb q) f0 f1 f3 f4 f5⟩
  self := fun A i s Q E st h => let ⟨⟨_, he⟩, _⟩ := st; wpAny_pyIter_enum he h
def iEnumT (K : PySem.W.Frag) (ta : TA) : TI := fun σ H R => ta σ H fun vs H1 => ∃ a xs, vs = [.ref a] ∧ SqT K H1 a xs ∧ R (IteT K a) H1
theorem pi_enumT {X : Cx} {e : Expr} {ta : TA} {p pos tpos : Pos} {elts : List Expr} {kk : Nat} (hg : Gl X "enumerate") (hm : X.mg "enumerate" = none) (ha : PA X [e] ta) (hs : starEach [e] X.env = [(false, eval e X.env)] := by rfl) :
    PI X (.Tuple elts kk tpos) (.Call (.Name "enumerate" p) [e] [] pos) (iEnumT X.K ta) := by
  refine ⟨fun pins s σ H R I h => ?_⟩
  refine Call_ (ld_blt I hg hm boot_enumerate (PyProof.Rows.callWith_type1 (thn (ha.run pos pins s σ H _ I h) fun us s1 ⟨vs, H1, I1, r1, q1⟩ => ?_) hs rfl))
  obtain ⟨a, xs, ex, hq, q⟩ := q1
  subst ex
  cases r1 with
  | cons r rr =>
    cases rr
    cases r
    obtain ⟨its, rv, p', hz⟩ := I1.tuple hq
    have pT : s1.heap.IsTuple a its.toArray := p'
    have alt : a < s1.heap.objs.size := by
      obtain ⟨_, z, _⟩ := pT
      exact Heap.lt_size z
    refine call_enumT pT fun h' he hit hsz hk => wpAny_pyIter_enum he ?_
    have I2 : Inv X pins σ H1 { s1 with heap := h' } := I1.kept (t' := s1.toks) hk
    refine ⟨s1.heap.objs.size + 1, [s1.heap.objs.size + 1, s1.heap.objs.size], _, _, H1, rfl, I2, turn_enumT a (s1.heap.objs.size + 1) s1.heap.objs.size (Nat.ne_of_lt alt) (Nat.ne_of_gt (Nat.lt_succ_of_lt alt)), ⟨⟨.none, he⟩, hit, Nat.succ_ne_self _⟩, fun b hb => ?_, q⟩
    have e' : b = s1.heap.objs.size + 1 ∨ b = s1.heap.objs.size := by simpa using hb
    have hle : s1.heap.objs.size ≤ b := by
      rcases e' with z | z
      · rw [z]
        exact Nat.le_add_right _ _
      · rw [z]
        exact Nat.le_refl _
    exact I1.fpOk hle (I1.hok.fresh hle)
theorem walk_enumT {K : PySem.W.Frag} {a : Addr} {xs : List V} : Walk (IteT K a) xs.length (fun H => SqT K H a xs) (YPair (fun i => some (.int (i : Nat))) (fun i => xs[i]?)) := by
  refine ⟨fun i _ hi q => ⟨xs, xs[i], q, by simp [hi]⟩, fun _ q => ⟨xs, q, rfl⟩, fun i H v H' _ q y => ?_⟩
  obtain ⟨T, x, h1, h2, h3, h4⟩ := y
  exact ⟨T, .int (i : Nat), x, h1, h2, h3, rfl, h4 xs q⟩

/-! ### isinstance of a function -/
theorem lk_fn_ga : typeLookup (.type "function") "__getattribute__" = pure (some (.builtin "object.__getattribute__")) := by rw [typeLookup_type, builtinLookup_eq_fast]; kernel_rfl
theorem lk_fn_class : typeLookup (.type "function") "__class__" = pure (some (.builtin "object.__class__")) := by rw [typeLookup_type, builtinLookup_eq_fast]; kernel_rfl
theorem so_fn_class : isSubtype (.type "function") (.type (".".intercalate ("object.__class__".cutAt '.').dropLast)) = pure true := by rw [PySem.F.owner_object_class, isSubtype_type]; kernel_rfl
theorem slot_fn_ga : Slot "function" "__getattribute__" "object.__getattribute__" :=
  .of (owner := "object") (n := "__getattribute__") lk_fn_ga (by decide +kernel) (by decide +kernel) (by decide +kernel)
    (by first | exact .inl (by decide +kernel) | exact .inr (by decide +kernel)) (by rw [isSubtype_type]; kernel_rfl)
section
variable {prog : Program} {w : World} {A : Around} {E : Value → Shared → Prop} {h : Heap} {g : Array GenState} {d : Drawn} {t : Nat} {os : OsState} {a : Addr} {o : Obj}
theorem fn_class_call {tk : Tok} {R : Result → Shared → Prop} (hx : h.get? a = some o) (hc : o.cls = .type "function") (hq : R (.ok (.ret (.type "function"))) ⟨h, g, d, t, os⟩) :
    codeAny (model prog w) A (.call (.builtin "object.__getattribute__") ⟨[.ref a, .str "__class__" tk], []⟩) R ⟨h, g, d, t, os⟩ :=
  codeAny_call_builtin slot_fn_ga.plain F.entry_object_getattribute (slot_fn_ga.check _ _ _ _ _ _ _ _ (show (⟨h, g, d, t, os⟩ : Shared).TypeIs (.ref a) "function" from ⟨_, hx, hc⟩) (F.args_object_getattribute_2 _ _) (class_entry_exc lk_fn_class so_fn_class (by decide +kernel) hx hc hq))
theorem fn_class_by {tk : Tok} {fill expr : Bool} {Q : Value → Shared → Prop} (hx : h.get? a = some o) (hc : o.cls = .type "function")
    (hq : Q (.type "function") ⟨h, g, d, t, os⟩) : wpAny (model prog w) A (getAttrBy (.ref a) (.str "__class__" tk) fill expr) Q E ⟨h, g, d, t, os⟩ := by
  have hT : (⟨h, g, d, t, os⟩ : Shared).TypeIs (.ref a) "function" := ⟨_, hx, hc⟩
  have f2 := slot_fn_ga.lookup
  have f3 := slot_fn_ga.bind (.ref a)
  have hx0 : (expr && onTheHeap (Value.builtin "object.__getattribute__")) = false := by cases expr <;> rfl
  repeat (any_goals (first | assumption | wp_step))
  refine fn_class_call hx hc ?_
  repeat (any_goals (first | assumption | wp_step))
theorem fn_class_attr {Q : Option Value → Shared → Prop} (hx : h.get? a = some o) (hc : o.cls = .type "function")
    (hq : Q (some (.type "function")) ⟨h, g, d, t + 1, os⟩) : wpAny (model prog w) A (getAttr? (.ref a) "__class__") Q E ⟨h, g, d, t, os⟩ := by
  unfold getAttr? getAttrBy?
  repeat (any_goals (first | assumption | with_reducible apply fn_class_by hx hc | wp_step))
end
theorem kitx_fn {K : PySem.W.Frag} {a : Addr} : PySem.W.KitX K (.ref a) (.type "function") (PySem.W.KitAt a "function") :=
  PySem.W.kitx_of PySem.W.kitAt_ty (fun {_ _ _ _ _ s} p k => by
    obtain ⟨h, g, d, t, os⟩ := s
    obtain ⟨o, h1, h2⟩ := p
    exact fn_class_attr h1 h2 k)
section
variable {Z : Cx}
/-- isinstance(x, T), x a function of which we know the object -/
def rIsiF (base : Heap) : List V → Hp → VK → Prop := fun xs H Q => ∃ (f : Addr) (o : Obj) (n : String) (b : Bool), xs = [.ref f, .ty n] ∧ (H f = some (ObjO f o) ∨ base.get? f = some o) ∧ o.cls = .type "function" ∧ kitB "function" n = some b ∧ Q (.bl b) H
theorem call_isiF : CallR Z (.builtin "isinstance") (rIsiF Z.base) := by
  intro pins s σ H xs us Q I r h
  obtain ⟨f, o, n, b, rfl, ho, hc, e, q⟩ := h
  obtain ⟨u1, u2, rfl, r1, r2⟩ := vals2 r
  cases (show u1 = Value.ref f from r1)
  cases (show u2 = Value.type n from r2)
  have hf : s.heap.get? f = some o := by
    rcases ho with z | z
    · exact (I.hok f _ z).1
    · exact I.bk f _ z
  exact PySem.W.kia_one kitx_fn I.kIn ⟨o, hf, hc⟩ (kit_ty e) (fun z => nomatch z) fun tk => ⟨.bl b, H, I.tok tk, rfl, q⟩
end
end Rp
end
section
set_option Elab.async false
set_option linter.all false
set_option maxRecDepth 100000
set_option maxHeartbeats 4000000
/-! Promises held under one name; heaps that grow; attributes by their places. -/
namespace Rp
open PySem PySem.Spec PyProof.Rows L2

/-- what the head tells -/
structure Txt (K : PySem.W.Frag) (mg : Str → Option Value) : Prop where
  fac : ∀ f ∈ fa, f.ok K = true
  dfs : ∀ d ∈ fn, ∃ fd, FunD K d.name d.qual d.params d.body d.scope (d.dvs K) (d.kws K) (He.fAd K d.at_) fd
  fst : He.tupB K "FIRST" [.int 0, .int (-1), .int 0, .int 0, .int 0, .int 0] = true
  hp : ∃ h : Heap, K.In h ∧ h.Ns mainGlobals mg
section
variable {K : PySem.W.Frag} {mg : Str → Option Value}
theorem Txt.glo (T : Txt K mg) (i : Nat) {x : Str} (h : fa[i]? = some (.glo x)) : mg x = some (.ref (He.ga K x)) := by
  obtain ⟨hp, X, G⟩ := T.hp
  exact He.glo_ok X G (T.fac _ (List.mem_of_getElem? h))
theorem Txt.free (T : Txt K mg) (i : Nat) {x : Str} (h : fa[i]? = some (.free x)) : mg x = none := by
  obtain ⟨hp, X, G⟩ := T.hp
  exact He.free_ok X G (T.fac _ (List.mem_of_getElem? h))
theorem Txt.int (T : Txt K mg) (i : Nat) {x : Str} {z : Int} (h : fa[i]? = some (.int x z)) : ∃ t, mg x = some (.int z t) := by
  obtain ⟨hp, X, G⟩ := T.hp
  exact He.int_ok X G (T.fac _ (List.mem_of_getElem? h))
theorem Txt.cls (T : Txt K mg) (i : Nat) {x : Str} (h : fa[i]? = some (.cls x)) : Cls K (He.ga K x) := He.cls_ok (T.fac _ (List.mem_of_getElem? h))
theorem Txt.noat (T : Txt K mg) (i : Nat) {x f : Str} (h : fa[i]? = some (.noat x f)) : NoAttr K (He.ga K x) f := He.noat_ok (T.fac _ (List.mem_of_getElem? h))
theorem Txt.meth (T : Txt K mg) (i : Nat) {x m : Str} (h : fa[i]? = some (.meth x m)) : Meth K (He.ga K x) m (He.ma K (He.ga K x) m) := He.meth_ok (T.fac _ (List.mem_of_getElem? h))
theorem Txt.mkr (T : Txt K mg) (i : Nat) {x : Str} (h : fa[i]? = some (.mkr x)) : Mk K (He.ga K x) (He.ma K (He.ga K x) "__init__") := He.mkr_ok (T.fac _ (List.mem_of_getElem? h))
theorem Txt.def_ (T : Txt K mg) (i : Nat) {d : He.DefD} (h : fn[i]? = some d) : ∃ fd, FunD K d.name d.qual d.params d.body d.scope (d.dvs K) (d.kws K) (He.fAd K d.at_) fd := T.dfs _ (List.mem_of_getElem? h)
end

/-! ### a def with its promise -/
structure Has (P : Program) (w : World) (K : PySem.W.Frag) (mg : Str → Option Value) (base : Heap) (k : Nat) (f : Addr) (ps : List Str) (dvs : List V) (sp : Sp) : Prop where
  ex : ∃ (fd : FuncData) (ds : List Value), FnOk P w K mg base CX0 k f fd ps sp ∧ Binds K fd ps ds ∧ Vals dvs ds
  kp : PySem.W.keepIn K (.ref f) = true
/-- .. called with keywords -/
structure HasN (P : Program) (w : World) (K : PySem.W.Frag) (mg : Str → Option Value) (base : Heap) (k : Nat) (f : Addr) (ps : List Str) (n : Nat) (ks : List Str) (gV : List V → List V → List V) (sp : Sp) : Prop where
  ex : ∃ (fd : FuncData) (g : List Value → List Value → List Value), FnOk P w K mg base CX0 k f fd ps sp ∧ KBn K fd ps n ks g gV
  kp : PySem.W.keepIn K (.ref f) = true
section
variable {X : Cx} {k n : Nat} {f C : Addr} {ps ks : List Str} {sp : Sp} {dvs : List V} {x m : Str} {p pos apos : Pos} {e o : Expr} {es : List Expr} {kws : List Keyword} {ta : TE} {t tk : TA} {gV : List V → List V → List V}
theorem pe_callH (G : Has X.prog X.w X.K X.mg X.base k f ps dvs sp) (hr : Room k X.A) (hg : Gl X x) (hm : X.mg x = some (.ref f)) (ha : PA X (e :: es) t)
    (hdb : (x == ("__debug__" : Str)) = false := by decide) (he : starEach (e :: es) X.env = (false, eval e X.env) :: starEach es X.env := by rfl) (hpl : (backTo pos (starEach es X.env)).any (·.1) = false := by rfl) :
    PE X (.Call (.Name x p) (e :: es) [] pos) (tCall sp dvs E0 t) := by
  obtain ⟨⟨fd, ds, F, b, v⟩, kp⟩ := G
  exact pe_call F hr hg hm kp b v pass0 ha hdb he hpl
theorem pe_callH0 (G : Has X.prog X.w X.K X.mg X.base k f ps dvs sp) (hr : Room k X.A) (hg : Gl X x) (hm : X.mg x = some (.ref f)) (hdb : (x == ("__debug__" : Str)) = false := by decide) :
    PE X (.Call (.Name x p) [] [] pos) (tCall sp dvs E0 tNil) := by
  obtain ⟨⟨fd, ds, F, b, v⟩, kp⟩ := G
  exact pe_call0 F hr hg hm kp b v pass0 hdb
theorem pe_methH {pl : Sem Bool} (G : Has X.prog X.w X.K X.mg X.base k f ps dvs sp) (c : Cls X.K C) (hm : Meth X.K C m f) (hr : Room k X.A) (he : PE X o ta) (ha : PA X (e :: es) t)
    (hst : starEach (e :: es) X.env = (false, eval e X.env) :: starEach es X.env := by rfl) (hpl : (backTo pos (starEach es X.env)).any (·.1) = false := by rfl)
    (ht : eval (.Call (.Attribute o m apos) (e :: es) [] pos) X.env = (do
      let ov ← eval o X.env
      standAt apos.atName
      let (f, first) ← holding [ov] (getMethod ov m pl)
      callWith pos f first (backTo pos (starEach (e :: es) X.env)) (backToKw pos (keywordEach [] X.env))) := by rfl) :
    PE X (.Call (.Attribute o m apos) (e :: es) [] pos) (tMeth C m sp dvs E0 ta t) := by
  obtain ⟨⟨fd, ds, F, b, v⟩, kp⟩ := G
  exact pe_meth he c hm F hr b v pass0 ha hst hpl ht
theorem pe_methH0 {pl : Sem Bool} (G : Has X.prog X.w X.K X.mg X.base k f ps dvs sp) (c : Cls X.K C) (hm : Meth X.K C m f) (hr : Room k X.A) (he : PE X o ta)
    (ht : eval (.Call (.Attribute o m apos) [] [] pos) X.env = (do
      let ov ← eval o X.env
      standAt apos.atName
      let (f, first) ← holding [ov] (getMethod ov m pl)
      callWith pos f first (backTo pos (starEach [] X.env)) (backToKw pos (keywordEach [] X.env))) := by rfl) :
    PE X (.Call (.Attribute o m apos) [] [] pos) (tMeth C m sp dvs E0 ta tNil) := by
  obtain ⟨⟨fd, ds, F, b, v⟩, kp⟩ := G
  exact pe_meth0 he c hm F hr b v pass0 ht
theorem pe_makeH (M : Mk X.K C f) (G : Has X.prog X.w X.K X.mg X.base k f ps dvs sp) (hr : Room (k + 1) X.A) (hg : Gl X x) (hm : X.mg x = some (.ref C)) (ha : PA X (e :: es) t)
    (hdb : (x == ("__debug__" : Str)) = false := by decide) (he : starEach (e :: es) X.env = (false, eval e X.env) :: starEach es X.env := by rfl) (hpl : (backTo pos (starEach es X.env)).any (·.1) = false := by rfl) :
    PE X (.Call (.Name x p) (e :: es) [] pos) (tMake C sp dvs E0 t) := by
  obtain ⟨⟨fd, ds, F, b, v⟩, kp⟩ := G
  exact pe_make M F hr hg hm b v pass0 ha hdb he hpl
theorem pe_callNH (G : HasN X.prog X.w X.K X.mg X.base k f ps n ks gV sp) (hr : Room k X.A) (hg : Gl X x) (hm : X.mg x = some (.ref f))
    (ha : PA X (e :: es) t) (hkw : PK X kws tk) (hall : (backToKw pos (keywordEach kws X.env)).all (·.1.isSome) = true := by rfl) (hks : (backToKw pos (keywordEach kws X.env)).filterMap (·.1) = ks := by rfl)
    (hdb : (x == ("__debug__" : Str)) = false := by decide) (he : starEach (e :: es) X.env = (false, eval e X.env) :: starEach es X.env := by rfl)
    (hpl : ((backTo pos (starEach (e :: es) X.env)).any (·.1) || (backToKw pos (keywordEach kws X.env)).any (·.1.isNone)) = false := by rfl) :
    PE X (.Call (.Name x p) (e :: es) kws pos) (tCallN n ks.length sp gV E0 t tk) := by
  obtain ⟨⟨fd, g, F, b⟩, kp⟩ := G
  exact pe_callN F hr hg hm kp b pass0 ha hkw hall hks hdb he hpl
theorem pe_makeNH (M : Mk X.K C f) (G : HasN X.prog X.w X.K X.mg X.base k f ps (n + 1) ks gV sp) (hr : Room (k + 1) X.A) (hg : Gl X x) (hm : X.mg x = some (.ref C)) (ha : PA X (e :: es) t) (hkw : PK X kws tk)
    (hall : (backToKw pos (keywordEach kws X.env)).all (·.1.isSome) = true := by rfl) (hks : (backToKw pos (keywordEach kws X.env)).filterMap (·.1) = ks := by rfl) (hdb : (x == ("__debug__" : Str)) = false := by decide)
    (he : starEach (e :: es) X.env = (false, eval e X.env) :: starEach es X.env := by rfl) (hpl : ((backTo pos (starEach (e :: es) X.env)).any (·.1) || (backToKw pos (keywordEach kws X.env)).any (·.1.isNone)) = false := by rfl) :
    PE X (.Call (.Name x p) (e :: es) kws pos) (tMakeK C n ks.length sp gV E0 t tk) := by
  obtain ⟨⟨fd, g, F, b⟩, kp⟩ := G
  exact pe_makeK M F hr hg hm b pass0 ha hkw hall hks hdb he hpl
theorem pe_gint {z : Int} (hg : Gl X x) (hm : ∃ t, X.mg x = some (.int z t)) (hd : (x == ("__debug__" : Str)) = false := by decide) : PE X (.Name x pos) (tC (.int z)) := by
  obtain ⟨t, hm⟩ := hm
  exact pe_glob hg hm ⟨_, rfl⟩ hd
end

/-! ### attributes by their places -/
theorem lookup_zip {f : Str} {v : V} : ∀ {ks : List Str} {vs : List V} {i : Nat}, ks.Nodup → ks[i]? = some f → vs[i]? = some v → (ks.zip vs).lookup f = some v
  | [], _, i, _, h, _ => by simp at h
  | _ :: _, [], i, _, _, h => by simp at h
  | k :: ks, w :: vs, 0, _, h1, h2 => by
    have e1 : k = f := by simpa using h1
    have e2 : w = v := by simpa using h2
    rw [e1, e2, List.zip_cons_cons, List.lookup_cons_self]
  | k :: ks, w :: vs, i + 1, nd, h1, h2 => by
    have h1' : ks[i]? = some f := by simpa using h1
    have h2' : vs[i]? = some v := by simpa using h2
    have nk : ¬ f = k := fun e => (List.nodup_cons.mp nd).1 (by rw [← e]; exact List.mem_of_getElem? h1')
    have e : (f == k) = false := beq_eq_false_iff_ne.mpr nk
    rw [List.zip_cons_cons, List.lookup_cons, e]
    exact lookup_zip (List.nodup_cons.mp nd).2 h1' h2'
theorem lookup_zip_no {f : Str} : ∀ {ks : List Str} {vs : List V}, ¬ f ∈ ks → (ks.zip vs).lookup f = none
  | [], _, _ => by simp
  | _ :: _, [], _ => by simp
  | k :: ks, w :: vs, h => by
    have e : (f == k) = false := beq_eq_false_iff_ne.mpr fun e => h (by rw [e]; exact List.mem_cons_self)
    rw [List.zip_cons_cons, List.lookup_cons, e]
    exact lookup_zip_no fun q => h (List.mem_cons_of_mem _ q)
theorem put_zip {f : Str} {v : V} : ∀ {ks : List Str} {vs : List V} {i : Nat}, ks.Nodup → ks[i]? = some f → i < vs.length → putF f v (ks.zip vs) = ks.zip (vs.set i v)
  | [], _, i, _, h, _ => by simp at h
  | _ :: _, [], i, _, _, h => by simp at h
  | k :: ks, w :: vs, 0, _, h1, h2 => by
    have e1 : k = f := by simpa using h1
    rw [e1]
    show (if f = f then (f, v) :: ks.zip vs else _) = _
    rw [if_pos rfl]
    rfl
  | k :: ks, w :: vs, i + 1, nd, h1, h2 => by
    have h1' : ks[i]? = some f := by simpa using h1
    have nk : ¬ k = f := fun e => (List.nodup_cons.mp nd).1 (by rw [e]; exact List.mem_of_getElem? h1')
    have ih := put_zip (v := v) (List.nodup_cons.mp nd).2 h1' (by simpa using h2)
    show (if k = f then (k, v) :: ks.zip vs else (k, w) :: putF f v (ks.zip vs)) = _
    rw [if_neg nk, ih]
    rfl
/-- a new attribute behind those that stand -/
theorem put_zip_new {f : Str} {v : V} : ∀ {ks ks' : List Str} {vs : List V}, ks.length = vs.length → ¬ f ∈ ks → putF f v (ks.zip vs) = (ks ++ [f]).zip (vs ++ [v])
  | [], _, [], _, _ => rfl
  | [], _, _ :: _, h, _ => by simp at h
  | _ :: _, _, [], h, _ => by simp at h
  | k :: ks, ks', w :: vs, h, hn => by
    have nk : ¬ k = f := fun e => hn (by rw [e]; exact List.mem_cons_self)
    have ih := put_zip_new (v := v) (ks' := ks') (ks := ks) (vs := vs) (by simpa using h) fun q => hn (List.mem_cons_of_mem _ q)
    show (if k = f then (k, v) :: ks.zip vs else (k, w) :: putF f v (ks.zip vs)) = _
    rw [if_neg nk, ih]
    rfl

/-! ### heaps -/
/-- what is never written: tuples, what is locked, what stands by its one object, talks, roads, runs -/
def fixK : List Str := ["lengths", "pieces", "ended"]
def fixO : HO → Bool
  | .tup _ => true
  | .frz _ _ => true
  | .ext _ => true
  | .ins _ _ fs => fs.any fun q => fixK.contains q.1
  | _ => false
/-- all but what stands at S is kept; what is never written is kept anyway -/
structure Go (S : List Addr) (H H' : Hp) : Prop where
  chg : ∀ b o, H b = some o → ¬ b ∈ S → H' b = some o
  fix : ∀ b o, H b = some o → fixO o = true → H' b = some o
section
variable {S S' : List Addr} {H H1 H2 H' : Hp}
theorem Go.refl : Go S H H := ⟨fun _ _ e _ => e, fun _ _ e _ => e⟩
theorem Go.trans (a : Go S H H1) (b : Go S' H1 H2) (h : ∀ a, a ∈ S' → a ∈ S ∨ H a = none) : Go S H H2 :=
  ⟨fun c o e n => b.chg c o (a.chg c o e n) fun z => (h c z).elim n (fun q => by
    rw [q] at e
    cases e), fun c o e f => b.fix c o (a.fix c o e f) f⟩
theorem Go.trans' (a : Go S H H1) (b : Go S H1 H2) : Go S H H2 := a.trans b fun _ z => .inl z
theorem Go.trans0 (a : Go S H H1) (b : Go [] H1 H2) : Go S H H2 := a.trans b fun _ z => absurd z (by simp)
theorem Go.mono (a : Go S H H1) (h : ∀ a, a ∈ S → a ∈ S') : Go S' H H1 := ⟨fun c o e n => a.chg c o e fun z => n (h c z), a.fix⟩
theorem Go.new {p : Addr} {o : HO} (h : H p = none) : Go S H (upd H p o) := ⟨fun b u e _ => by rw [upd_ne (ne_of_none e h)]; exact e, fun b u e _ => by rw [upd_ne (ne_of_none e h)]; exact e⟩
theorem Go.mut {p : Addr} {o o' : HO} (hp : p ∈ S) (h : H p = some o) (hf : fixO o = false) : Go S H (upd H p o') :=
  ⟨fun b u e n => by rw [upd_ne fun z => n (by rw [z]; exact hp)]; exact e, fun b u e f => by
    rw [upd_ne fun z => by
      rw [z, h] at e
      cases e
      rw [hf] at f
      cases f]
    exact e⟩
theorem Go.free (a : Go S H H1) {l : Addr} (h : H1 l = none) (hl : ¬ l ∈ S) : H l = none := by
  cases q : H l with
  | none => rfl
  | some o =>
    rw [a.chg l o q hl] at h
    cases h
theorem Go.same (a : Go [] H H1) : Same H H1 := fun b o e => a.chg b o e (by simp)
theorem Go.of (a : Same H H1) : Go S H H1 := ⟨fun b o e _ => a b o e, fun b o e _ => a b o e⟩
theorem Go.tup {K : PySem.W.Frag} {a : Addr} {xs : List V} (g : Go S H H1) (h : SqT K H a xs) : SqT K H1 a xs := by
  rcases h with (h | ⟨o, h⟩) | h
  · exact .inl (.inl (g.fix _ _ h rfl))
  · exact .inl (.inr ⟨o, g.fix _ _ h rfl⟩)
  · exact .inr h
end
end Rp
end
section
set_option Elab.async false
set_option linter.all false
set_option maxRecDepth 100000
set_option maxHeartbeats 4000000
/-! The head's facts by their names; the defs' scopes. -/
namespace Rp
open PySem PySem.Spec PyProof.Rows L2
section
variable {K : PySem.W.Frag} {mg : Str → Option Value}
theorem g_is_rate (T : Txt K mg) : mg "is_rate" = some (.ref (He.ga K "is_rate")) := T.glo 0 rfl
theorem g_rate_by (T : Txt K mg) : mg "rate_by" = some (.ref (He.ga K "rate_by")) := T.glo 1 rfl
theorem g_seen_at (T : Txt K mg) : mg "seen_at" = some (.ref (He.ga K "seen_at")) := T.glo 2 rfl
theorem g_look_room (T : Txt K mg) : mg "look_room" = some (.ref (He.ga K "look_room")) := T.glo 3 rfl
theorem g_first_stand (T : Txt K mg) : mg "first_stand" = some (.ref (He.ga K "first_stand")) := T.glo 4 rfl
theorem g_is_over (T : Txt K mg) : mg "is_over" = some (.ref (He.ga K "is_over")) := T.glo 5 rfl
theorem g_has_room (T : Txt K mg) : mg "has_room" = some (.ref (He.ga K "has_room")) := T.glo 6 rfl
theorem g_asks (T : Txt K mg) : mg "asks" = some (.ref (He.ga K "asks")) := T.glo 7 rfl
theorem g_chosen (T : Txt K mg) : mg "chosen" = some (.ref (He.ga K "chosen")) := T.glo 8 rfl
theorem g_begins (T : Txt K mg) : mg "begins" = some (.ref (He.ga K "begins")) := T.glo 9 rfl
theorem g_played_on (T : Txt K mg) : mg "played_on" = some (.ref (He.ga K "played_on")) := T.glo 10 rfl
theorem g_beat_on (T : Txt K mg) : mg "beat_on" = some (.ref (He.ga K "beat_on")) := T.glo 11 rfl
theorem g_gone (T : Txt K mg) : mg "gone" = some (.ref (He.ga K "gone")) := T.glo 12 rfl
theorem g_is_pace (T : Txt K mg) : mg "is_pace" = some (.ref (He.ga K "is_pace")) := T.glo 13 rfl
theorem g_run_of (T : Txt K mg) : mg "run_of" = some (.ref (He.ga K "run_of")) := T.glo 14 rfl
theorem g_law_deck (T : Txt K mg) : mg "_law_deck" = some (.ref (He.ga K "_law_deck")) := T.glo 15 rfl
theorem g_law_draw (T : Txt K mg) : mg "_law_draw" = some (.ref (He.ga K "_law_draw")) := T.glo 16 rfl
theorem g_law_pick (T : Txt K mg) : mg "_law_pick" = some (.ref (He.ga K "_law_pick")) := T.glo 17 rfl
theorem g_law_talk (T : Txt K mg) : mg "_law_talk" = some (.ref (He.ga K "_law_talk")) := T.glo 18 rfl
theorem g_law_options (T : Txt K mg) : mg "_law_options" = some (.ref (He.ga K "_law_options")) := T.glo 19 rfl
theorem g_law_road (T : Txt K mg) : mg "_law_road" = some (.ref (He.ga K "_law_road")) := T.glo 20 rfl
theorem g_law_player (T : Txt K mg) : mg "_law_player" = some (.ref (He.ga K "_law_player")) := T.glo 21 rfl
theorem g_law_run (T : Txt K mg) : mg "_law_run" = some (.ref (He.ga K "_law_run")) := T.glo 22 rfl
theorem g_law_over_all (T : Txt K mg) : mg "_law_over_all" = some (.ref (He.ga K "_law_over_all")) := T.glo 23 rfl
theorem g_law_stalls (T : Txt K mg) : mg "_law_stalls" = some (.ref (He.ga K "_law_stalls")) := T.glo 24 rfl
theorem g_law_by_beats (T : Txt K mg) : mg "_law_by_beats" = some (.ref (He.ga K "_law_by_beats")) := T.glo 25 rfl
theorem g_law (T : Txt K mg) : mg "law" = some (.ref (He.ga K "law")) := T.glo 26 rfl
theorem g_FIRST (T : Txt K mg) : mg "FIRST" = some (.ref (He.ga K "FIRST")) := T.glo 27 rfl
theorem g_Speed (T : Txt K mg) : mg "Speed" = some (.ref (He.ga K "Speed")) := T.glo 28 rfl
theorem c_Speed (T : Txt K mg) : Cls K (He.ga K "Speed") := T.cls 29 rfl
theorem mk_Speed (T : Txt K mg) : Mk K (He.ga K "Speed") (He.ma K (He.ga K "Speed") "__init__") := T.mkr 30 rfl
theorem na_Speed_bits (T : Txt K mg) : NoAttr K (He.ga K "Speed") "bits" := T.noat 31 rfl
theorem na_Speed_beats (T : Txt K mg) : NoAttr K (He.ga K "Speed") "beats" := T.noat 32 rfl
theorem g_Player (T : Txt K mg) : mg "Player" = some (.ref (He.ga K "Player")) := T.glo 33 rfl
theorem c_Player (T : Txt K mg) : Cls K (He.ga K "Player") := T.cls 34 rfl
theorem mk_Player (T : Txt K mg) : Mk K (He.ga K "Player") (He.ma K (He.ga K "Player") "__init__") := T.mkr 35 rfl
theorem m_Player_starts (T : Txt K mg) : Meth K (He.ga K "Player") "starts" (He.ma K (He.ga K "Player") "starts") := T.meth 36 rfl
theorem m_Player_is_ended (T : Txt K mg) : Meth K (He.ga K "Player") "is_ended" (He.ma K (He.ga K "Player") "is_ended") := T.meth 37 rfl
theorem m_Player_does_ask (T : Txt K mg) : Meth K (He.ga K "Player") "does_ask" (He.ma K (He.ga K "Player") "does_ask") := T.meth 38 rfl
theorem m_Player_take (T : Txt K mg) : Meth K (He.ga K "Player") "take" (He.ma K (He.ga K "Player") "take") := T.meth 39 rfl
theorem m_Player_pass_beat (T : Txt K mg) : Meth K (He.ga K "Player") "pass_beat" (He.ma K (He.ga K "Player") "pass_beat") := T.meth 40 rfl
theorem m_Player_seen_now (T : Txt K mg) : Meth K (He.ga K "Player") "seen_now" (He.ma K (He.ga K "Player") "seen_now") := T.meth 41 rfl
theorem m_Player_choose (T : Txt K mg) : Meth K (He.ga K "Player") "choose" (He.ma K (He.ga K "Player") "choose") := T.meth 42 rfl
theorem m_Player_beat (T : Txt K mg) : Meth K (He.ga K "Player") "beat" (He.ma K (He.ga K "Player") "beat") := T.meth 43 rfl
theorem m_Player_over (T : Txt K mg) : Meth K (He.ga K "Player") "over" (He.ma K (He.ga K "Player") "over") := T.meth 44 rfl
theorem m_Player_stand_now (T : Txt K mg) : Meth K (He.ga K "Player") "stand_now" (He.ma K (He.ga K "Player") "stand_now") := T.meth 45 rfl
theorem m_Player_gone_by (T : Txt K mg) : Meth K (He.ga K "Player") "gone_by" (He.ma K (He.ga K "Player") "gone_by") := T.meth 46 rfl
theorem m_Player_thrown (T : Txt K mg) : Meth K (He.ga K "Player") "thrown" (He.ma K (He.ga K "Player") "thrown") := T.meth 47 rfl
theorem m_Player_notes (T : Txt K mg) : Meth K (He.ga K "Player") "notes" (He.ma K (He.ga K "Player") "notes") := T.meth 48 rfl
theorem na_Player_talk_told (T : Txt K mg) : NoAttr K (He.ga K "Player") "talk_told" := T.noat 49 rfl
theorem na_Player_options_told (T : Txt K mg) : NoAttr K (He.ga K "Player") "options_told" := T.noat 50 rfl
theorem na_Player_stand_here (T : Txt K mg) : NoAttr K (He.ga K "Player") "stand_here" := T.noat 51 rfl
theorem na_Player_fetch_beats (T : Txt K mg) : NoAttr K (He.ga K "Player") "fetch_beats" := T.noat 52 rfl
theorem na_Player_beats_gone (T : Txt K mg) : NoAttr K (He.ga K "Player") "beats_gone" := T.noat 53 rfl
theorem na_Player_beats_thrown (T : Txt K mg) : NoAttr K (He.ga K "Player") "beats_thrown" := T.noat 54 rfl
theorem na_Player_rate_last (T : Txt K mg) : NoAttr K (He.ga K "Player") "rate_last" := T.noat 55 rfl
theorem na_Player_speed_last (T : Txt K mg) : NoAttr K (He.ga K "Player") "speed_last" := T.noat 56 rfl
theorem na_Player_deeds_noted (T : Txt K mg) : NoAttr K (He.ga K "Player") "deeds_noted" := T.noat 57 rfl
theorem g_Road (T : Txt K mg) : mg "Road" = some (.ref (He.ga K "Road")) := T.glo 58 rfl
theorem c_Road (T : Txt K mg) : Cls K (He.ga K "Road") := T.cls 59 rfl
theorem mk_Road (T : Txt K mg) : Mk K (He.ga K "Road") (He.ma K (He.ga K "Road") "__init__") := T.mkr 60 rfl
theorem m_Road_speed_at (T : Txt K mg) : Meth K (He.ga K "Road") "speed_at" (He.ma K (He.ga K "Road") "speed_at") := T.meth 61 rfl
theorem na_Road_pieces (T : Txt K mg) : NoAttr K (He.ga K "Road") "pieces" := T.noat 62 rfl
theorem g_Walk (T : Txt K mg) : mg "Walk" = some (.ref (He.ga K "Walk")) := T.glo 63 rfl
theorem c_Walk (T : Txt K mg) : Cls K (He.ga K "Walk") := T.cls 64 rfl
theorem mk_Walk (T : Txt K mg) : Mk K (He.ga K "Walk") (He.ma K (He.ga K "Walk") "__init__") := T.mkr 65 rfl
theorem m_Walk_is_at_end (T : Txt K mg) : Meth K (He.ga K "Walk") "is_at_end" (He.ma K (He.ga K "Walk") "is_at_end") := T.meth 66 rfl
theorem m_Walk_asks_here (T : Txt K mg) : Meth K (He.ga K "Walk") "asks_here" (He.ma K (He.ga K "Walk") "asks_here") := T.meth 67 rfl
theorem m_Walk_choose_here (T : Txt K mg) : Meth K (He.ga K "Walk") "choose_here" (He.ma K (He.ga K "Walk") "choose_here") := T.meth 68 rfl
theorem m_Walk_step_on (T : Txt K mg) : Meth K (He.ga K "Walk") "step_on" (He.ma K (He.ga K "Walk") "step_on") := T.meth 69 rfl
theorem na_Walk_talk_walked (T : Txt K mg) : NoAttr K (He.ga K "Walk") "talk_walked" := T.noat 70 rfl
theorem na_Walk_chooser_asked (T : Txt K mg) : NoAttr K (He.ga K "Walk") "chooser_asked" := T.noat 71 rfl
theorem na_Walk_limits (T : Txt K mg) : NoAttr K (He.ga K "Walk") "limits" := T.noat 72 rfl
theorem na_Walk_waiting (T : Txt K mg) : NoAttr K (He.ga K "Walk") "waiting" := T.noat 73 rfl
theorem na_Walk_opening (T : Txt K mg) : NoAttr K (He.ga K "Walk") "opening" := T.noat 74 rfl
theorem na_Walk_stand_here (T : Txt K mg) : NoAttr K (He.ga K "Walk") "stand_here" := T.noat 75 rfl
theorem na_Walk_beat_here (T : Txt K mg) : NoAttr K (He.ga K "Walk") "beat_here" := T.noat 76 rfl
theorem na_Walk_rate_last (T : Txt K mg) : NoAttr K (He.ga K "Walk") "rate_last" := T.noat 77 rfl
theorem na_Walk_speed_last (T : Txt K mg) : NoAttr K (He.ga K "Walk") "speed_last" := T.noat 78 rfl
theorem na_Walk_rates (T : Txt K mg) : NoAttr K (He.ga K "Walk") "rates" := T.noat 79 rfl
theorem na_Walk_begun (T : Txt K mg) : NoAttr K (He.ga K "Walk") "begun" := T.noat 80 rfl
theorem na_Walk_whole (T : Txt K mg) : NoAttr K (He.ga K "Walk") "whole" := T.noat 81 rfl
theorem na_Walk_plays (T : Txt K mg) : NoAttr K (He.ga K "Walk") "plays" := T.noat 82 rfl
theorem na_Walk_stalls (T : Txt K mg) : NoAttr K (He.ga K "Walk") "stalls" := T.noat 83 rfl
theorem na_Walk_kept (T : Txt K mg) : NoAttr K (He.ga K "Walk") "kept" := T.noat 84 rfl
theorem g_Run (T : Txt K mg) : mg "Run" = some (.ref (He.ga K "Run")) := T.glo 85 rfl
theorem c_Run (T : Txt K mg) : Cls K (He.ga K "Run") := T.cls 86 rfl
theorem mk_Run (T : Txt K mg) : Mk K (He.ga K "Run") (He.ma K (He.ga K "Run") "__init__") := T.mkr 87 rfl
theorem na_Run_rates (T : Txt K mg) : NoAttr K (He.ga K "Run") "rates" := T.noat 88 rfl
theorem na_Run_begun (T : Txt K mg) : NoAttr K (He.ga K "Run") "begun" := T.noat 89 rfl
theorem na_Run_whole (T : Txt K mg) : NoAttr K (He.ga K "Run") "whole" := T.noat 90 rfl
theorem na_Run_plays (T : Txt K mg) : NoAttr K (He.ga K "Run") "plays" := T.noat 91 rfl
theorem na_Run_stalls (T : Txt K mg) : NoAttr K (He.ga K "Run") "stalls" := T.noat 92 rfl
theorem na_Run_ended (T : Txt K mg) : NoAttr K (He.ga K "Run") "ended" := T.noat 93 rfl
theorem na_Run_kept (T : Txt K mg) : NoAttr K (He.ga K "Run") "kept" := T.noat 94 rfl
theorem g_Talk (T : Txt K mg) : mg "Talk" = some (.ref (He.ga K "Talk")) := T.glo 95 rfl
theorem c_Talk (T : Txt K mg) : Cls K (He.ga K "Talk") := T.cls 96 rfl
theorem mk_Talk (T : Txt K mg) : Mk K (He.ga K "Talk") (He.ma K (He.ga K "Talk") "__init__") := T.mkr 97 rfl
theorem m_Talk_len (T : Txt K mg) : Meth K (He.ga K "Talk") "__len__" (He.ma K (He.ga K "Talk") "__len__") := T.meth 98 rfl
theorem m_Talk_many_rates (T : Txt K mg) : Meth K (He.ga K "Talk") "many_rates" (He.ma K (He.ga K "Talk") "many_rates") := T.meth 99 rfl
theorem na_Talk_lengths (T : Txt K mg) : NoAttr K (He.ga K "Talk") "lengths" := T.noat 100 rfl
theorem na_Talk_sizes (T : Txt K mg) : NoAttr K (He.ga K "Talk") "sizes" := T.noat 101 rfl
theorem b_len (T : Txt K mg) : mg "len" = none := T.free 102 rfl
theorem b_sum (T : Txt K mg) : mg "sum" = none := T.free 103 rfl
theorem b_enumerate (T : Txt K mg) : mg "enumerate" = none := T.free 104 rfl
theorem b_isinstance (T : Txt K mg) : mg "isinstance" = none := T.free 105 rfl
theorem b_int (T : Txt K mg) : mg "int" = none := T.free 106 rfl
theorem b_bool (T : Txt K mg) : mg "bool" = none := T.free 107 rfl
theorem b_tuple (T : Txt K mg) : mg "tuple" = none := T.free 108 rfl
theorem b_list (T : Txt K mg) : mg "list" = none := T.free 109 rfl
theorem b_range (T : Txt K mg) : mg "range" = none := T.free 110 rfl
theorem b_max (T : Txt K mg) : mg "max" = none := T.free 111 rfl
theorem b_min (T : Txt K mg) : mg "min" = none := T.free 112 rfl
theorem b_repr (T : Txt K mg) : mg "repr" = none := T.free 113 rfl
theorem i_NONE (T : Txt K mg) : ∃ t, mg "NONE" = some (.int (-1) t) := T.int 114 rfl
theorem i_AHEAD (T : Txt K mg) : ∃ t, mg "AHEAD" = some (.int (0) t) := T.int 115 rfl
theorem i_PLAYS (T : Txt K mg) : ∃ t, mg "PLAYS" = some (.int (1) t) := T.int 116 rfl
theorem i_STALLS (T : Txt K mg) : ∃ t, mg "STALLS" = some (.int (2) t) := T.int 117 rfl
theorem sc_is_rate : FnScope ["talk", "thing"] ["talk", "thing"] (defScope s_is_rate) := ⟨rfl, rfl, rfl, by decide +kernel, rfl, by decide +kernel, by decide +kernel⟩
theorem fd_is_rate (T : Txt K mg) : ∃ fd, FunD K "is_rate" "is_rate" (defArgs s_is_rate) (defBody s_is_rate) (defScope s_is_rate) [] [] (He.ga K "is_rate") fd := T.def_ 0 (d := d_is_rate) rfl
theorem sc_rate_by : FnScope ["talk", "chooser", "seen", "rate"] ["talk", "chooser", "seen"] (defScope s_rate_by) := ⟨rfl, rfl, rfl, by decide +kernel, rfl, by decide +kernel, by decide +kernel⟩
theorem fd_rate_by (T : Txt K mg) : ∃ fd, FunD K "rate_by" "rate_by" (defArgs s_rate_by) (defBody s_rate_by) (defScope s_rate_by) [] [] (He.ga K "rate_by") fd := T.def_ 1 (d := d_rate_by) rfl
theorem sc_seen_at : FnScope ["stand", "rate", "speed"] ["stand", "rate", "speed"] (defScope s_seen_at) := ⟨rfl, rfl, rfl, by decide +kernel, rfl, by decide +kernel, by decide +kernel⟩
theorem fd_seen_at (T : Txt K mg) : ∃ fd, FunD K "seen_at" "seen_at" (defArgs s_seen_at) (defBody s_seen_at) (defScope s_seen_at) [] [] (He.ga K "seen_at") fd := T.def_ 2 (d := d_seen_at) rfl
theorem sc_look_room : FnScope ["talk", "most", "number", "length"] ["talk", "most"] (defScope s_look_room) := ⟨rfl, rfl, rfl, by decide +kernel, rfl, by decide +kernel, by decide +kernel⟩
theorem fd_look_room (T : Txt K mg) : ∃ fd, FunD K "look_room" "look_room" (defArgs s_look_room) (defBody s_look_room) (defScope s_look_room) [] [] (He.ga K "look_room") fd := T.def_ 3 (d := d_look_room) rfl
theorem sc_first_stand : FnScope [] [] (defScope s_first_stand) := ⟨rfl, rfl, rfl, by decide +kernel, rfl, by decide +kernel, by decide +kernel⟩
theorem fd_first_stand (T : Txt K mg) : ∃ fd, FunD K "first_stand" "first_stand" (defArgs s_first_stand) (defBody s_first_stand) (defScope s_first_stand) [] [] (He.ga K "first_stand") fd := T.def_ 4 (d := d_first_stand) rfl
theorem sc_is_over : FnScope ["talk", "stand"] ["talk", "stand"] (defScope s_is_over) := ⟨rfl, rfl, rfl, by decide +kernel, rfl, by decide +kernel, by decide +kernel⟩
theorem fd_is_over (T : Txt K mg) : ∃ fd, FunD K "is_over" "is_over" (defArgs s_is_over) (defBody s_is_over) (defScope s_is_over) [] [] (He.ga K "is_over") fd := T.def_ 5 (d := d_is_over) rfl
theorem sc_has_room : FnScope ["talk", "stand", "most", "number", "coming", "got", "kept", "others"] ["talk", "stand", "most"] (defScope s_has_room) := ⟨rfl, rfl, rfl, by decide +kernel, rfl, by decide +kernel, by decide +kernel⟩
theorem fd_has_room (T : Txt K mg) : ∃ fd, FunD K "has_room" "has_room" (defArgs s_has_room) (defBody s_has_room) (defScope s_has_room) [] [] (He.ga K "has_room") fd := T.def_ 6 (d := d_has_room) rfl
theorem sc_asks : FnScope ["talk", "stand", "most"] ["talk", "stand", "most"] (defScope s_asks) := ⟨rfl, rfl, rfl, by decide +kernel, rfl, by decide +kernel, by decide +kernel⟩
theorem fd_asks (T : Txt K mg) : ∃ fd, FunD K "asks" "asks" (defArgs s_asks) (defBody s_asks) (defScope s_asks) [] [("most", V.int 30)] (He.ga K "asks") fd := T.def_ 7 (d := d_asks) rfl
theorem sc_chosen : FnScope ["stand", "rate", "wait", "number", "coming", "got", "others"] ["stand", "rate", "wait"] (defScope s_chosen) := ⟨rfl, rfl, rfl, by decide +kernel, rfl, by decide +kernel, by decide +kernel⟩
theorem fd_chosen (T : Txt K mg) : ∃ fd, FunD K "chosen" "chosen" (defArgs s_chosen) (defBody s_chosen) (defScope s_chosen) [] [("wait", V.int 0)] (He.ga K "chosen") fd := T.def_ 8 (d := d_chosen) rfl
theorem sc_begins : FnScope ["talk", "stand", "begin", "again", "most", "number", "coming", "got", "kept", "played", "going"] ["talk", "stand", "begin", "again", "most"] (defScope s_begins) := ⟨rfl, rfl, rfl, by decide +kernel, rfl, by decide +kernel, by decide +kernel⟩
theorem fd_begins (T : Txt K mg) : ∃ fd, FunD K "begins" "begins" (defArgs s_begins) (defBody s_begins) (defScope s_begins) [] [] (He.ga K "begins") fd := T.def_ 9 (d := d_begins) rfl
theorem sc_played_on : FnScope ["talk", "stand", "begin", "again", "most", "number", "coming", "got", "kept", "played", "going"] ["talk", "stand", "begin", "again", "most"] (defScope s_played_on) := ⟨rfl, rfl, rfl, by decide +kernel, rfl, by decide +kernel, by decide +kernel⟩
theorem fd_played_on (T : Txt K mg) : ∃ fd, FunD K "played_on" "played_on" (defArgs s_played_on) (defBody s_played_on) (defScope s_played_on) [] [] (He.ga K "played_on") fd := T.def_ 10 (d := d_played_on) rfl
theorem sc_beat_on : FnScope ["talk", "stand", "speed", "begin", "again", "most", "number", "coming", "got", "others", "kept", "played", "going"] ["talk", "stand", "speed", "begin", "again", "most"] (defScope s_beat_on) := ⟨rfl, rfl, rfl, by decide +kernel, rfl, by decide +kernel, by decide +kernel⟩
theorem fd_beat_on (T : Txt K mg) : ∃ fd, FunD K "beat_on" "beat_on" (defArgs s_beat_on) (defBody s_beat_on) (defScope s_beat_on) [] [] (He.ga K "beat_on") fd := T.def_ 11 (d := d_beat_on) rfl
theorem sc_gone : FnScope ["talk", "stand", "speed", "begin", "again", "most"] ["talk", "stand", "speed", "begin", "again", "most"] (defScope s_gone) := ⟨rfl, rfl, rfl, by decide +kernel, rfl, by decide +kernel, by decide +kernel⟩
theorem fd_gone (T : Txt K mg) : ∃ fd, FunD K "gone" "gone" (defArgs s_gone) (defBody s_gone) (defScope s_gone) [] [("begin", V.int 4), ("again", V.int 8), ("most", V.int 30)] (He.ga K "gone") fd := T.def_ 12 (d := d_gone) rfl
theorem sc_is_pace : FnScope ["thing"] ["thing"] (defScope s_is_pace) := ⟨rfl, rfl, rfl, by decide +kernel, rfl, by decide +kernel, by decide +kernel⟩
theorem fd_is_pace (T : Txt K mg) : ∃ fd, FunD K "is_pace" "is_pace" (defArgs s_is_pace) (defBody s_is_pace) (defScope s_is_pace) [] [] (He.ga K "is_pace") fd := T.def_ 13 (d := d_is_pace) rfl
theorem sc_run_of : FnScope ["talk", "road", "chooser", "begin", "again", "most", "wait", "opens", "walk", "told", "some", "rates", "begun", "whole", "plays", "stalls"] ["talk", "road", "chooser", "begin", "again", "most", "wait", "opens"] (defScope s_run_of) := ⟨rfl, rfl, rfl, by decide +kernel, rfl, by decide +kernel, by decide +kernel⟩
theorem fd_run_of (T : Txt K mg) : ∃ fd, FunD K "run_of" "run_of" (defArgs s_run_of) (defBody s_run_of) (defScope s_run_of) [] [("begin", V.int 4), ("again", V.int 8), ("most", V.int 30), ("wait", V.int 0), ("opens", V.non)] (He.ga K "run_of") fd := T.def_ 14 (d := d_run_of) rfl
theorem sc_law_deck : FnScope ["_law_script", "_law_cells"] ["_law_script"] (defScope s_law_deck) := ⟨rfl, rfl, rfl, by decide +kernel, rfl, by decide +kernel, by decide +kernel⟩
theorem fd_law_deck (T : Txt K mg) : ∃ fd, FunD K "_law_deck" "_law_deck" (defArgs s_law_deck) (defBody s_law_deck) (defScope s_law_deck) [] [] (He.ga K "_law_deck") fd := T.def_ 15 (d := d_law_deck) rfl
theorem sc_law_draw : FnScope ["_law_deck_here", "_law_size", "_law_cell", "_law_number"] ["_law_deck_here", "_law_size"] (defScope s_law_draw) := ⟨rfl, rfl, rfl, by decide +kernel, rfl, by decide +kernel, by decide +kernel⟩
theorem fd_law_draw (T : Txt K mg) : ∃ fd, FunD K "_law_draw" "_law_draw" (defArgs s_law_draw) (defBody s_law_draw) (defScope s_law_draw) [] [] (He.ga K "_law_draw") fd := T.def_ 16 (d := d_law_draw) rfl
theorem sc_law_pick : FnScope ["_law_deck_here", "_law_some"] ["_law_deck_here", "_law_some"] (defScope s_law_pick) := ⟨rfl, rfl, rfl, by decide +kernel, rfl, by decide +kernel, by decide +kernel⟩
theorem fd_law_pick (T : Txt K mg) : ∃ fd, FunD K "_law_pick" "_law_pick" (defArgs s_law_pick) (defBody s_law_pick) (defScope s_law_pick) [] [] (He.ga K "_law_pick") fd := T.def_ 17 (d := d_law_pick) rfl
theorem sc_law_talk : FnScope ["_law_deck_here", "_law_great", "_law_way", "_law_stretches", "_law_rates", "_law_lengths", "_law_sizes", "_law_k", "_law_some", "_law_rate", "_law_one", "_law_row"] ["_law_deck_here", "_law_great"] (defScope s_law_talk) := ⟨rfl, rfl, rfl, by decide +kernel, rfl, by decide +kernel, by decide +kernel⟩
theorem fd_law_talk (T : Txt K mg) : ∃ fd, FunD K "_law_talk" "_law_talk" (defArgs s_law_talk) (defBody s_law_talk) (defScope s_law_talk) [] [] (He.ga K "_law_talk") fd := T.def_ 18 (d := d_law_talk) rfl
theorem sc_law_options : FnScope ["_law_deck_here", "_law_lengths", "_law_told", "_law_room", "_law_found"] ["_law_deck_here", "_law_lengths"] (defScope s_law_options) := ⟨rfl, rfl, rfl, by decide +kernel, rfl, by decide +kernel, by decide +kernel⟩
theorem fd_law_options (T : Txt K mg) : ∃ fd, FunD K "_law_options" "_law_options" (defArgs s_law_options) (defBody s_law_options) (defScope s_law_options) [] [] (He.ga K "_law_options") fd := T.def_ 19 (d := d_law_options) rfl
theorem sc_law_road : FnScope ["_law_deck_here", "_law_found", "_law_k", "_law_beats", "_law_speeds"] ["_law_deck_here"] (defScope s_law_road) := ⟨rfl, rfl, rfl, by decide +kernel, rfl, by decide +kernel, by decide +kernel⟩
theorem fd_law_road (T : Txt K mg) : ∃ fd, FunD K "_law_road" "_law_road" (defArgs s_law_road) (defBody s_law_road) (defScope s_law_road) [] [] (He.ga K "_law_road") fd := T.def_ 20 (d := d_law_road) rfl
theorem sc_law_player : FnScope ["_law_talk_here", "_law_told", "_law_start", "_law_later", "_law_room", "_law_idle"] ["_law_talk_here", "_law_told"] (defScope s_law_player) := ⟨rfl, rfl, rfl, by decide +kernel, rfl, by decide +kernel, by decide +kernel⟩
theorem fd_law_player (T : Txt K mg) : ∃ fd, FunD K "_law_player" "_law_player" (defArgs s_law_player) (defBody s_law_player) (defScope s_law_player) [] [] (He.ga K "_law_player") fd := T.def_ 21 (d := d_law_player) rfl
theorem sc_law_run : FnScope ["_law_talk_here", "_law_road_here", "_law_plan", "_law_told"] ["_law_talk_here", "_law_road_here", "_law_plan", "_law_told"] (defScope s_law_run) := ⟨rfl, rfl, rfl, by decide +kernel, rfl, by decide +kernel, by decide +kernel⟩
theorem fd_law_run (T : Txt K mg) : ∃ fd, FunD K "_law_run" "_law_run" (defArgs s_law_run) (defBody s_law_run) (defScope s_law_run) [] [] (He.ga K "_law_run") fd := T.def_ 22 (d := d_law_run) rfl
theorem sc_law_over_all : FnScope ["_law_deck_here", "_law_player_here", "_law_speeds", "_law_plan", "_law_size", "_law_passed", "_law_at", "_law_many"] ["_law_deck_here", "_law_player_here", "_law_speeds", "_law_plan", "_law_size"] (defScope s_law_over_all) := ⟨rfl, rfl, rfl, by decide +kernel, rfl, by decide +kernel, by decide +kernel⟩
theorem fd_law_over_all (T : Txt K mg) : ∃ fd, FunD K "_law_over_all" "_law_over_all" (defArgs s_law_over_all) (defBody s_law_over_all) (defScope s_law_over_all) [] [] (He.ga K "_law_over_all") fd := T.def_ 23 (d := d_law_over_all) rfl
theorem sc_law_stalls : FnScope ["_law_beats", "_law_found", "_law_beat"] ["_law_beats"] (defScope s_law_stalls) := ⟨rfl, rfl, rfl, by decide +kernel, rfl, by decide +kernel, by decide +kernel⟩
theorem fd_law_stalls (T : Txt K mg) : ∃ fd, FunD K "_law_stalls" "_law_stalls" (defArgs s_law_stalls) (defBody s_law_stalls) (defScope s_law_stalls) [] [] (He.ga K "_law_stalls") fd := T.def_ 24 (d := d_law_stalls) rfl
theorem sc_law_by_beats : FnScope ["_law_player_here", "_law_talk_here", "_law_told", "_law_speeds", "_law_plan", "_law_rates", "_law_started", "_law_done", "_law_plays", "_law_waits", "_law_store", "_law_at", "_law_speed_here", "_law_ahead", "_law_number", "_law_stand"] ["_law_player_here", "_law_talk_here", "_law_told", "_law_speeds", "_law_plan"] (defScope s_law_by_beats) := ⟨rfl, rfl, rfl, by decide +kernel, rfl, by decide +kernel, by decide +kernel⟩
theorem fd_law_by_beats (T : Txt K mg) : ∃ fd, FunD K "_law_by_beats" "_law_by_beats" (defArgs s_law_by_beats) (defBody s_law_by_beats) (defScope s_law_by_beats) [] [] (He.ga K "_law_by_beats") fd := T.def_ 25 (d := d_law_by_beats) rfl
theorem sc_law : FnScope ["_law_script", "_law_deck_here", "_law_lengths", "_law_sizes", "_law_told", "_law_talk_here", "_law_plan", "_law_k", "_law_road_here", "_law_run_here", "_law_speeds", "_law_at", "_law_stand", "_law_size", "_law_player_here", "_law_due"] ["_law_script"] (defScope s_law) := ⟨rfl, rfl, rfl, by decide +kernel, rfl, by decide +kernel, by decide +kernel⟩
theorem fd_law (T : Txt K mg) : ∃ fd, FunD K "law" "law" (defArgs s_law) (defBody s_law) (defScope s_law) [] [] (He.ga K "law") fd := T.def_ 26 (d := d_law) rfl
theorem sc_Speed_init : FnScope ["self", "bits", "beats"] ["self", "bits", "beats"] (defScope s_Speed_init) := ⟨rfl, rfl, rfl, by decide +kernel, rfl, by decide +kernel, by decide +kernel⟩
theorem fd_Speed_init (T : Txt K mg) : ∃ fd, FunD K "__init__" "Speed.__init__" (defArgs s_Speed_init) (defBody s_Speed_init) (defScope s_Speed_init) [] [] (He.ma K (He.ga K "Speed") "__init__") fd := T.def_ 27 (d := d_Speed_init) rfl
theorem sc_Player_init : FnScope ["self", "talk", "begin", "again", "most", "wait"] ["self", "talk", "begin", "again", "most", "wait"] (defScope s_Player_init) := ⟨rfl, rfl, rfl, by decide +kernel, rfl, by decide +kernel, by decide +kernel⟩
theorem fd_Player_init (T : Txt K mg) : ∃ fd, FunD K "__init__" "Player.__init__" (defArgs s_Player_init) (defBody s_Player_init) (defScope s_Player_init) [] [("begin", V.int 4), ("again", V.int 8), ("most", V.int 30), ("wait", V.int 0)] (He.ma K (He.ga K "Player") "__init__") fd := T.def_ 28 (d := d_Player_init) rfl
theorem sc_Player_starts : FnScope ["self", "found", "beats"] ["self"] (defScope s_Player_starts) := ⟨rfl, rfl, rfl, by decide +kernel, rfl, by decide +kernel, by decide +kernel⟩
theorem fd_Player_starts (T : Txt K mg) : ∃ fd, FunD K "starts" "Player.starts" (defArgs s_Player_starts) (defBody s_Player_starts) (defScope s_Player_starts) [] [] (He.ma K (He.ga K "Player") "starts") fd := T.def_ 29 (d := d_Player_starts) rfl
theorem sc_Player_is_ended : FnScope ["self"] ["self"] (defScope s_Player_is_ended) := ⟨rfl, rfl, rfl, by decide +kernel, rfl, by decide +kernel, by decide +kernel⟩
theorem fd_Player_is_ended (T : Txt K mg) : ∃ fd, FunD K "is_ended" "Player.is_ended" (defArgs s_Player_is_ended) (defBody s_Player_is_ended) (defScope s_Player_is_ended) [] [] (He.ma K (He.ga K "Player") "is_ended") fd := T.def_ 30 (d := d_Player_is_ended) rfl
theorem sc_Player_does_ask : FnScope ["self"] ["self"] (defScope s_Player_does_ask) := ⟨rfl, rfl, rfl, by decide +kernel, rfl, by decide +kernel, by decide +kernel⟩
theorem fd_Player_does_ask (T : Txt K mg) : ∃ fd, FunD K "does_ask" "Player.does_ask" (defArgs s_Player_does_ask) (defBody s_Player_does_ask) (defScope s_Player_does_ask) [] [] (He.ma K (He.ga K "Player") "does_ask") fd := T.def_ 31 (d := d_Player_does_ask) rfl
theorem sc_Player_take : FnScope ["self", "rate"] ["self", "rate"] (defScope s_Player_take) := ⟨rfl, rfl, rfl, by decide +kernel, rfl, by decide +kernel, by decide +kernel⟩
theorem fd_Player_take (T : Txt K mg) : ∃ fd, FunD K "take" "Player.take" (defArgs s_Player_take) (defBody s_Player_take) (defScope s_Player_take) [] [] (He.ma K (He.ga K "Player") "take") fd := T.def_ 32 (d := d_Player_take) rfl
theorem sc_Player_pass_beat : FnScope ["self", "speed", "begin", "again", "most", "wait", "fetched", "coming", "got", "kept", "played", "going", "behind"] ["self", "speed"] (defScope s_Player_pass_beat) := ⟨rfl, rfl, rfl, by decide +kernel, rfl, by decide +kernel, by decide +kernel⟩
theorem fd_Player_pass_beat (T : Txt K mg) : ∃ fd, FunD K "pass_beat" "Player.pass_beat" (defArgs s_Player_pass_beat) (defBody s_Player_pass_beat) (defScope s_Player_pass_beat) [] [] (He.ma K (He.ga K "Player") "pass_beat") fd := T.def_ 33 (d := d_Player_pass_beat) rfl
theorem sc_Player_seen_now : FnScope ["self"] ["self"] (defScope s_Player_seen_now) := ⟨rfl, rfl, rfl, by decide +kernel, rfl, by decide +kernel, by decide +kernel⟩
theorem fd_Player_seen_now (T : Txt K mg) : ∃ fd, FunD K "seen_now" "Player.seen_now" (defArgs s_Player_seen_now) (defBody s_Player_seen_now) (defScope s_Player_seen_now) [] [] (He.ma K (He.ga K "Player") "seen_now") fd := T.def_ 34 (d := d_Player_seen_now) rfl
theorem sc_Player_choose : FnScope ["self", "rate", "outcome"] ["self", "rate"] (defScope s_Player_choose) := ⟨rfl, rfl, rfl, by decide +kernel, rfl, by decide +kernel, by decide +kernel⟩
theorem fd_Player_choose (T : Txt K mg) : ∃ fd, FunD K "choose" "Player.choose" (defArgs s_Player_choose) (defBody s_Player_choose) (defScope s_Player_choose) [] [] (He.ma K (He.ga K "Player") "choose") fd := T.def_ 35 (d := d_Player_choose) rfl
theorem sc_Player_beat : FnScope ["self", "speed", "outcome", "played"] ["self", "speed"] (defScope s_Player_beat) := ⟨rfl, rfl, rfl, by decide +kernel, rfl, by decide +kernel, by decide +kernel⟩
theorem fd_Player_beat (T : Txt K mg) : ∃ fd, FunD K "beat" "Player.beat" (defArgs s_Player_beat) (defBody s_Player_beat) (defScope s_Player_beat) [] [] (He.ma K (He.ga K "Player") "beat") fd := T.def_ 36 (d := d_Player_beat) rfl
theorem sc_Player_over : FnScope ["self", "speeds", "rule", "outcome", "many", "speed"] ["self", "speeds", "rule"] (defScope s_Player_over) := ⟨rfl, rfl, rfl, by decide +kernel, rfl, by decide +kernel, by decide +kernel⟩
theorem fd_Player_over (T : Txt K mg) : ∃ fd, FunD K "over" "Player.over" (defArgs s_Player_over) (defBody s_Player_over) (defScope s_Player_over) [] [("rule", V.non)] (He.ma K (He.ga K "Player") "over") fd := T.def_ 37 (d := d_Player_over) rfl
theorem sc_Player_stand_now : FnScope ["self"] ["self"] (defScope s_Player_stand_now) := ⟨rfl, rfl, rfl, by decide +kernel, rfl, by decide +kernel, by decide +kernel⟩
theorem fd_Player_stand_now (T : Txt K mg) : ∃ fd, FunD K "stand_now" "Player.stand_now" (defArgs s_Player_stand_now) (defBody s_Player_stand_now) (defScope s_Player_stand_now) [] [] (He.ma K (He.ga K "Player") "stand_now") fd := T.def_ 38 (d := d_Player_stand_now) rfl
theorem sc_Player_gone_by : FnScope ["self"] ["self"] (defScope s_Player_gone_by) := ⟨rfl, rfl, rfl, by decide +kernel, rfl, by decide +kernel, by decide +kernel⟩
theorem fd_Player_gone_by (T : Txt K mg) : ∃ fd, FunD K "gone_by" "Player.gone_by" (defArgs s_Player_gone_by) (defBody s_Player_gone_by) (defScope s_Player_gone_by) [] [] (He.ma K (He.ga K "Player") "gone_by") fd := T.def_ 39 (d := d_Player_gone_by) rfl
theorem sc_Player_thrown : FnScope ["self"] ["self"] (defScope s_Player_thrown) := ⟨rfl, rfl, rfl, by decide +kernel, rfl, by decide +kernel, by decide +kernel⟩
theorem fd_Player_thrown (T : Txt K mg) : ∃ fd, FunD K "thrown" "Player.thrown" (defArgs s_Player_thrown) (defBody s_Player_thrown) (defScope s_Player_thrown) [] [] (He.ma K (He.ga K "Player") "thrown") fd := T.def_ 40 (d := d_Player_thrown) rfl
theorem sc_Player_notes : FnScope ["self"] ["self"] (defScope s_Player_notes) := ⟨rfl, rfl, rfl, by decide +kernel, rfl, by decide +kernel, by decide +kernel⟩
theorem fd_Player_notes (T : Txt K mg) : ∃ fd, FunD K "notes" "Player.notes" (defArgs s_Player_notes) (defBody s_Player_notes) (defScope s_Player_notes) [] [] (He.ma K (He.ga K "Player") "notes") fd := T.def_ 41 (d := d_Player_notes) rfl
theorem sc_Road_init : FnScope ["self", "pieces"] ["self", "pieces"] (defScope s_Road_init) := ⟨rfl, rfl, rfl, by decide +kernel, rfl, by decide +kernel, by decide +kernel⟩
theorem fd_Road_init (T : Txt K mg) : ∃ fd, FunD K "__init__" "Road.__init__" (defArgs s_Road_init) (defBody s_Road_init) (defScope s_Road_init) [] [] (He.ma K (He.ga K "Road") "__init__") fd := T.def_ 42 (d := d_Road_init) rfl
theorem sc_Road_speed_at : FnScope ["self", "beat", "left", "beats", "speed"] ["self", "beat"] (defScope s_Road_speed_at) := ⟨rfl, rfl, rfl, by decide +kernel, rfl, by decide +kernel, by decide +kernel⟩
theorem fd_Road_speed_at (T : Txt K mg) : ∃ fd, FunD K "speed_at" "Road.speed_at" (defArgs s_Road_speed_at) (defBody s_Road_speed_at) (defScope s_Road_speed_at) [] [] (He.ma K (He.ga K "Road") "speed_at") fd := T.def_ 43 (d := d_Road_speed_at) rfl
theorem sc_Walk_init : FnScope ["self", "talk", "chooser", "begin", "again", "most", "wait", "opens"] ["self", "talk", "chooser", "begin", "again", "most", "wait", "opens"] (defScope s_Walk_init) := ⟨rfl, rfl, rfl, by decide +kernel, rfl, by decide +kernel, by decide +kernel⟩
theorem fd_Walk_init (T : Txt K mg) : ∃ fd, FunD K "__init__" "Walk.__init__" (defArgs s_Walk_init) (defBody s_Walk_init) (defScope s_Walk_init) [] [("begin", V.int 4), ("again", V.int 8), ("most", V.int 30), ("wait", V.int 0), ("opens", V.non)] (He.ma K (He.ga K "Walk") "__init__") fd := T.def_ 44 (d := d_Walk_init) rfl
theorem sc_Walk_is_at_end : FnScope ["self"] ["self"] (defScope s_Walk_is_at_end) := ⟨rfl, rfl, rfl, by decide +kernel, rfl, by decide +kernel, by decide +kernel⟩
theorem fd_Walk_is_at_end (T : Txt K mg) : ∃ fd, FunD K "is_at_end" "Walk.is_at_end" (defArgs s_Walk_is_at_end) (defBody s_Walk_is_at_end) (defScope s_Walk_is_at_end) [] [] (He.ma K (He.ga K "Walk") "is_at_end") fd := T.def_ 45 (d := d_Walk_is_at_end) rfl
theorem sc_Walk_asks_here : FnScope ["self", "number", "coming", "others"] ["self"] (defScope s_Walk_asks_here) := ⟨rfl, rfl, rfl, by decide +kernel, rfl, by decide +kernel, by decide +kernel⟩
theorem fd_Walk_asks_here (T : Txt K mg) : ∃ fd, FunD K "asks_here" "Walk.asks_here" (defArgs s_Walk_asks_here) (defBody s_Walk_asks_here) (defScope s_Walk_asks_here) [] [] (He.ma K (He.ga K "Walk") "asks_here") fd := T.def_ 46 (d := d_Walk_asks_here) rfl
theorem sc_Walk_choose_here : FnScope ["self", "seen"] ["self"] (defScope s_Walk_choose_here) := ⟨rfl, rfl, rfl, by decide +kernel, rfl, by decide +kernel, by decide +kernel⟩
theorem fd_Walk_choose_here (T : Txt K mg) : ∃ fd, FunD K "choose_here" "Walk.choose_here" (defArgs s_Walk_choose_here) (defBody s_Walk_choose_here) (defScope s_Walk_choose_here) [] [] (He.ma K (He.ga K "Walk") "choose_here") fd := T.def_ 47 (d := d_Walk_choose_here) rfl
theorem sc_Walk_step_on : FnScope ["self", "speed", "begin", "again", "most", "ahead", "first", "many", "size"] ["self", "speed"] (defScope s_Walk_step_on) := ⟨rfl, rfl, rfl, by decide +kernel, rfl, by decide +kernel, by decide +kernel⟩
theorem fd_Walk_step_on (T : Txt K mg) : ∃ fd, FunD K "step_on" "Walk.step_on" (defArgs s_Walk_step_on) (defBody s_Walk_step_on) (defScope s_Walk_step_on) [] [] (He.ma K (He.ga K "Walk") "step_on") fd := T.def_ 48 (d := d_Walk_step_on) rfl
theorem sc_Run_init : FnScope ["self", "rates", "begun", "whole", "plays", "stalls", "ended", "kept"] ["self", "rates", "begun", "whole", "plays", "stalls", "ended", "kept"] (defScope s_Run_init) := ⟨rfl, rfl, rfl, by decide +kernel, rfl, by decide +kernel, by decide +kernel⟩
theorem fd_Run_init (T : Txt K mg) : ∃ fd, FunD K "__init__" "Run.__init__" (defArgs s_Run_init) (defBody s_Run_init) (defScope s_Run_init) [] [] (He.ma K (He.ga K "Run") "__init__") fd := T.def_ 49 (d := d_Run_init) rfl
theorem sc_Talk_init : FnScope ["self", "lengths", "sizes"] ["self", "lengths", "sizes"] (defScope s_Talk_init) := ⟨rfl, rfl, rfl, by decide +kernel, rfl, by decide +kernel, by decide +kernel⟩
theorem fd_Talk_init (T : Txt K mg) : ∃ fd, FunD K "__init__" "Talk.__init__" (defArgs s_Talk_init) (defBody s_Talk_init) (defScope s_Talk_init) [] [] (He.ma K (He.ga K "Talk") "__init__") fd := T.def_ 50 (d := d_Talk_init) rfl
theorem sc_Talk_len : FnScope ["self"] ["self"] (defScope s_Talk_len) := ⟨rfl, rfl, rfl, by decide +kernel, rfl, by decide +kernel, by decide +kernel⟩
theorem fd_Talk_len (T : Txt K mg) : ∃ fd, FunD K "__len__" "Talk.__len__" (defArgs s_Talk_len) (defBody s_Talk_len) (defScope s_Talk_len) [] [] (He.ma K (He.ga K "Talk") "__len__") fd := T.def_ 51 (d := d_Talk_len) rfl
theorem sc_Talk_many_rates : FnScope ["self", "first", "rest"] ["self"] (defScope s_Talk_many_rates) := ⟨rfl, rfl, rfl, by decide +kernel, rfl, by decide +kernel, by decide +kernel⟩
theorem fd_Talk_many_rates (T : Txt K mg) : ∃ fd, FunD K "many_rates" "Talk.many_rates" (defArgs s_Talk_many_rates) (defBody s_Talk_many_rates) (defScope s_Talk_many_rates) [] [] (He.ma K (He.ga K "Talk") "many_rates") fd := T.def_ 52 (d := d_Talk_many_rates) rfl
end
def kSpeed : List Str := ["bits", "beats"]
theorem kSpeed_nd : kSpeed.Nodup := by decide +kernel
def kPlayer : List Str := ["talk_told", "options_told", "stand_here", "fetch_beats", "beats_gone", "beats_thrown", "rate_last", "speed_last", "deeds_noted"]
theorem kPlayer_nd : kPlayer.Nodup := by decide +kernel
def kRoad : List Str := ["pieces"]
theorem kRoad_nd : kRoad.Nodup := by decide +kernel
def kWalk : List Str := ["talk_walked", "chooser_asked", "limits", "waiting", "opening", "stand_here", "beat_here", "rate_last", "speed_last", "rates", "begun", "whole", "plays", "stalls", "kept"]
theorem kWalk_nd : kWalk.Nodup := by decide +kernel
def kRun : List Str := ["rates", "begun", "whole", "plays", "stalls", "ended", "kept"]
theorem kRun_nd : kRun.Nodup := by decide +kernel
def kTalk : List Str := ["lengths", "sizes"]
theorem kTalk_nd : kTalk.Nodup := by decide +kernel
end Rp
end
section
/-! The program's stands and beats as plain functions. -/
namespace Rp
/-- a talk: the beats of each stretch, its bits at each rate -/
structure Tk where
  ls : List Int
  zs : List (List Int)
/-- a stand -/
structure Sd where
  n : Nat
  c : Int
  g : Int
  k : Int
  p : Int
  o : Int
/-- options -/
structure Op where
  b : Int
  a : Int
  m : Int
  w : Int
def sd0 : Sd := ⟨0, -1, 0, 0, 0, 0⟩
def Tk.l (t : Tk) (i : Nat) : Int := t.ls.getD i 0
def Tk.z (t : Tk) (i : Nat) (c : Int) : Int := (t.zs.getD i []).getD c.toNat 0
def hasRoom (t : Tk) (most : Int) (s : Sd) : Bool := decide (s.n < t.ls.length) && decide (s.k + t.l s.n ≤ most)
def asksB (t : Tk) (most : Int) (s : Sd) : Bool := decide (s.c = -1) && hasRoom t most s
def chosenS (w : Int) (s : Sd) (r : Int) : Sd := { s with c := r, g := 0 - w }
def beginsB (t : Tk) (s : Sd) (b a m : Int) : Bool := decide ((if s.o = 0 then b else a) ≤ s.k) || decide (s.n = t.ls.length) || (decide (s.c = -1) && !hasRoom t m s)
/-- kept, played, going behind a beat -/
def playedT (t : Tk) (s : Sd) (b a m : Int) : Int × Int × Int :=
  if s.o ≠ 1 ∧ beginsB t s b a m = false then (s.k, s.p, s.o) else if s.k = 0 then (s.k, s.p, 2) else (s.k - 1, s.p + 1, 1)
def gotV (s : Sd) (v : Int) : Int := s.g + (if s.g < 0 then 1 else v)
def beatS (t : Tk) (s : Sd) (v b a m : Int) : Sd :=
  let q := playedT t s b a m
  if s.c = -1 then ⟨s.n, s.c, s.g, q.1, q.2.1, q.2.2⟩
  else if gotV s v < t.z s.n s.c then ⟨s.n, s.c, gotV s v, q.1, q.2.1, q.2.2⟩
  else ⟨s.n + 1, -1, 0, q.1 + t.l s.n, q.2.1, q.2.2⟩
/-- a talk as the laws build them: R rates -/
structure TkOk (t : Tk) (R : Nat) : Prop where
  zl : t.zs.length = t.ls.length
  l0 : 0 < t.ls.length
  l1 : t.ls.length ≤ 12
  ls : ∀ l ∈ t.ls, 1 ≤ l ∧ l ≤ 20
  rl : ∀ r ∈ t.zs, r.length = R
  r0 : 1 ≤ R
  r1 : R ≤ 4
  zs : ∀ r ∈ t.zs, ∀ z ∈ r, 1 ≤ z ∧ z ≤ 1000
/-- what the walk over the code asks of a stand -/
structure SdOk (t : Tk) (R : Nat) (s : Sd) : Prop where
  n : s.n ≤ t.ls.length
  c : s.c = -1 ∨ (0 ≤ s.c ∧ s.c < R ∧ s.n < t.ls.length)
  o : s.o = 0 ∨ s.o = 1 ∨ s.o = 2
end Rp
end
section
set_option Elab.async false
set_option linter.all false
set_option maxRecDepth 100000
set_option maxHeartbeats 4000000
/-! What stands where; the promises. -/
namespace Rp
open PySem PySem.Spec PyProof.Rows L2
abbrev sdV (s : Sd) : List V := [.int (s.n : Int), .int s.c, .int s.g, .int s.k, .int s.p, .int s.o]
/-- the rows of a talk -/
def RowsAt (K : PySem.W.Frag) (H : Hp) (rs : List Addr) (zs : List (List Int)) : Prop := rs.length = zs.length ∧ ∀ (i : Nat) (r : Addr) (row : List Int), rs[i]? = some r → zs[i]? = some row → SqT K H r (row.map V.int)
structure TalkAt (K : PySem.W.Frag) (H : Hp) (a : Addr) (t : Tk) : Prop where
  ex : ∃ (dx l z : Addr) (rs : List Addr), H a = some (.ins (He.ga K "Talk") dx (kTalk.zip [.ref l, .ref z])) ∧ SqT K H l (t.ls.map V.int) ∧ SqT K H z (rs.map V.ref) ∧ RowsAt K H rs t.zs
section
variable {K : PySem.W.Frag} {S : List Addr} {H H' : Hp}
theorem RowsAt.go {rs : List Addr} {zs : List (List Int)} (r : RowsAt K H rs zs) (g : Go S H H') : RowsAt K H' rs zs := ⟨r.1, fun i a row h1 h2 => g.tup (r.2 i a row h1 h2)⟩
theorem fix_talk {C dx : Addr} {u v : V} : fixO (.ins C dx (kTalk.zip [u, v])) = true := by kernel_rfl
theorem TalkAt.go {a : Addr} {t : Tk} (h : TalkAt K H a t) (g : Go S H H') : TalkAt K H' a t := by
  obtain ⟨dx, l, z, rs, h1, h2, h3, h4⟩ := h.ex
  exact ⟨dx, l, z, rs, g.fix _ _ h1 fix_talk, g.tup h2, g.tup h3, h4.go g⟩
end
end Rp
end
section
set_option Elab.async false
set_option linter.all false
set_option maxRecDepth 100000
set_option maxHeartbeats 4000000
/-! Readings, a step a lemma. -/
namespace Rp
open PySem PySem.Spec PyProof.Rows L2
section
variable {K : PySem.W.Frag} {σ : L2.St} {H : Hp} {D : Ends} {Q : VK} {QB : Bool → Hp → Prop}
theorem c_seq {t u : TS} (h : t { D with nx := u D } σ H) : tSeq t u D σ H := h
theorem c_asg {te : TE} {g : TG} (h : te σ H fun x H1 => g x σ H1 D.nx) : tAsg te g D σ H := h
theorem c_drop {te : TE} (h : te σ H fun _ H1 => D.nx σ H1) : tDrop te D σ H := h
theorem c_ret {te : TE} (h : te σ H D.rt) : tRet te D σ H := h
theorem c_ifS {c : TT} {t u : TS} (h : c σ H fun b H1 => if b = true then t D σ H1 else u D σ H1) : tIfS c t u D σ H := h
theorem c_next (h : D.nx σ H) : tNext D σ H := h
theorem c_brk (h : D.bk σ H) : tBreak D σ H := h
theorem c_aug {i : Nat} {te : TE} {ti : TIp} {x : V} (e : σ[i]? = some (some x)) (h : te σ H fun y H1 => ti x y H1 fun z H2 => D.nx (σ.set i (some z)) H2) : tAug i te ti D σ H := ⟨x, e, h⟩
theorem c_name {i : Nat} {v : V} {q : L2.St → Hp → Prop} (h : q (σ.set i (some v)) H) : gName i v σ H q := h
theorem c_tupG {n a : _} {t : TGs} {xs : List V} {q : L2.St → Hp → Prop} (h : SqT K H a xs) (hl : xs.length = n) (k : t xs σ H q) : gTup K n t (.ref a) σ H q := ⟨a, xs, rfl, h, hl, k⟩
theorem c_unlG {n a : _} {t : TGs} {xs : List V} {q : L2.St → Hp → Prop} (h : SqL K H a xs) (hl : xs.length = n) (k : t xs σ H q) : gUnl K n t (.ref a) σ H q := ⟨a, xs, rfl, h, hl, k⟩
theorem c_gcons {t : TG} {u : TGs} {v : V} {r : List V} {q : L2.St → Hp → Prop} (h : t v σ H fun σ' H' => u r σ' H' q) : gCons t u (v :: r) σ H q := ⟨v, r, rfl, h⟩
theorem c_gnil {q : L2.St → Hp → Prop} (h : q σ H) : gNil [] σ H q := ⟨rfl, h⟩
/-- a star in the target: the new list is left open -/
theorem c_starG {i a : _} {t : TGs} {xs : List V} {q : L2.St → Hp → Prop} (h : SqT K H a xs) (hl : i ≤ xs.length) (hz : xs.length ≤ 1000)
    (k : ∀ p H1, Go [] H H1 → H p = none → H1 p = some (.lst (xs.drop i)) → t (xs.take i ++ [.ref p]) σ H1 q) : gStar K i t (.ref a) σ H q :=
  ⟨a, xs, rfl, h, hl, hz, fun p hp => k p _ (Go.new hp) hp upd_same⟩
theorem c_var {i : Nat} {v : V} (e : σ[i]? = some (some v)) (h : Q v H) : tVar i σ H Q := ⟨v, e, h⟩
theorem c_c {v : V} (h : Q v H) : tC v σ H Q := h
theorem c_op {r : R2} {ta tb : TE} (h : ta σ H fun x H1 => tb σ H1 fun y H2 => r x y H2 Q) : tOp r ta tb σ H Q := h
theorem c_un {r : V → Hp → VK → Prop} {ta : TE} (h : ta σ H fun x H1 => r x H1 Q) : tUn r ta σ H Q := h
theorem c_I0 {g : Int → Int → V} {i j : Int} (h : Q (g i j) H) : rI0 g (.int i) (.int j) H Q := ⟨i, j, rfl, rfl, h⟩
theorem c_I {C : Int → Int → Prop} {g : Int → Int → V} {i j : Int} (c : C i j) (h : Q (g i j) H) : rI C g (.int i) (.int j) H Q := ⟨i, j, rfl, rfl, c, h⟩
theorem c_U {g : Int → V} {i : Int} (h : Q (g i) H) : rU g (.int i) H Q := ⟨i, rfl, h⟩
theorem c_ip {f : Int → Int → Int} {i j : Int} (h : Q (.int (f i j)) H) : ipI f (.int i) (.int j) H Q := ⟨i, j, rfl, rfl, h⟩
theorem dec_ints {i j : Int} : decide (V.int i = V.int j) = decide (i = j) := by
  by_cases h : i = j
  · rw [h, decide_eq_true rfl, decide_eq_true rfl]
  · rw [decide_eq_false h, decide_eq_false fun z => h (V.int.inj z)]
theorem c_eqI {i j : Int} (h : Q (.bl (decide (i = j))) H) : rEq (.int i) (.int j) H Q := ⟨rfl, by rw [dec_ints]; exact h⟩
theorem c_neI {i j : Int} (h : Q (.bl (!decide (i = j))) H) : rNe (.int i) (.int j) H Q := ⟨rfl, by rw [dec_ints]; exact h⟩
theorem c_test {t : TE} (h : t σ H fun x H' => ∃ k, x = .bl k ∧ QB k H') : tTest t σ H QB := h
theorem c_tB {t : TE} (h : t σ H fun x H' => ∃ k, x = .bl k ∧ QB k H') : tB t σ H QB := h
theorem c_bl {b : Bool} (h : QB b H) : ∃ k, V.bl b = .bl k ∧ QB k H := ⟨b, rfl, h⟩
theorem c_not {t : TT} (h : t σ H fun c H1 => QB (!c) H1) : tNot t σ H QB := h
theorem c_and {t u : TT} (h : t σ H fun c H1 => if c = true then u σ H1 QB else QB false H1) : tAnd t u σ H QB := h
theorem c_or {t u : TT} (h : t σ H fun c H1 => if c = true then QB true H1 else u σ H1 QB) : tOr t u σ H QB := h
theorem c_andV {ta tb : TE} (h : ta σ H fun x H1 => ∃ c, x = .bl c ∧ if c = true then tb σ H1 Q else Q (.bl false) H1) : tAndV ta tb σ H Q := h
theorem c_orV {ta tb : TE} (h : ta σ H fun x H1 => ∃ c, x = .bl c ∧ if c = true then Q (.bl true) H1 else tb σ H1 Q) : tOrV ta tb σ H Q := h
theorem c_notV {ta : TE} (h : ta σ H fun x H1 => ∃ c, x = .bl c ∧ Q (.bl (!c)) H1) : tNotV ta σ H Q := h
theorem c_if {t : TT} {ta tb : TE} (h : t σ H fun c H1 => if c = true then ta σ H1 Q else tb σ H1 Q) : tIf t ta tb σ H Q := h
theorem c_ixT {p : Addr} {xs : List V} {i : Int} {v : V} (h : SqT K H p xs) (e : atI xs i = some v) (q : Q v H) : rIxT K (.ref p) (.int i) H Q := ⟨p, xs, i, v, rfl, rfl, h, e, q⟩
theorem c_ixL {p : Addr} {xs : List V} {i : Int} {v : V} (h : SqL K H p xs) (e : atI xs i = some v) (q : Q v H) : rIxL K (.ref p) (.int i) H Q := ⟨p, xs, i, v, rfl, rfl, h, e, q⟩
theorem c_cons {ta : TE} {tr : TA} {q : List V → Hp → Prop} (h : ta σ H fun x H1 => tr σ H1 fun xs H2 => q (x :: xs) H2) : tCons ta tr σ H q := h
theorem c_nil {q : List V → Hp → Prop} (h : q [] H) : tNil σ H q := h
theorem c_CB {r : List V → Hp → VK → Prop} {t : TA} (h : t σ H fun vs H1 => r vs H1 Q) : tCB r t σ H Q := h
theorem c_call {sp : Sp} {dvs : List V} {E : XK} {t : TA} (h : t σ H fun vs H1 => sp (vs ++ dvs) H1 Q E) : tCall sp dvs E t σ H Q := h
theorem c_callN {n m : Nat} {sp : Sp} {gV : List V → List V → List V} {E : XK} {t tk : TA} (h : t σ H fun vs H1 => tk σ H1 fun zs H2 => vs.length = n ∧ zs.length = m ∧ sp (gV vs zs) H2 Q E) : tCallN n m sp gV E t tk σ H Q := h
/-- a method of the object at a -/
def MethR (C : Addr) (m : Str) (sp : Sp) (dvs : List V) (E : XK) (t : TA) (σ : L2.St) : V → Hp → VK → Prop := fun x H1 Q => ∃ a dx fs, x = .ref a ∧ H1 a = some (.ins C dx fs) ∧ fs.lookup m = none ∧ t σ H1 fun vs H2 => sp (x :: (vs ++ dvs)) H2 Q E
theorem c_meth {C : Addr} {m : Str} {sp : Sp} {dvs : List V} {E : XK} {ta : TE} {t : TA} (h : ta σ H fun x H1 => MethR C m sp dvs E t σ x H1 Q) : tMeth C m sp dvs E ta t σ H Q := h
theorem methR {C a dx : Addr} {m : Str} {sp : Sp} {dvs : List V} {E : XK} {t : TA} {ks : List Str} {vs : List V} (h : H a = some (.ins C dx (ks.zip vs))) (hn : ks.contains m = false) (k : t σ H fun vs H2 => sp (.ref a :: (vs ++ dvs)) H2 Q E) : MethR C m sp dvs E t σ (.ref a) H Q :=
  ⟨a, dx, _, rfl, h, lookup_zip_no (by intro z; rw [List.contains_iff_mem.mpr z] at hn; cases hn), k⟩
/-- a new tuple, a new list: which one is left open -/
theorem c_tup {t : TA} (h : t σ H fun xs H1 => xs.length ≤ sizeLine ∧ ∀ p H2, Go [] H1 H2 → H1 p = none → H2 p = some (.tup xs) → Q (.ref p) H2) (mono : ∀ q q' : List V → Hp → Prop, (∀ xs H1, q xs H1 → q' xs H1) → t σ H q → t σ H q') : tTup t σ H Q :=
  mono _ _ (fun xs H1 z => ⟨z.1, fun p hp => z.2 p _ (Go.new hp) hp upd_same⟩) h
theorem newT {xs : List V} (k : ∀ p H2, Go [] H H2 → H p = none → H2 p = some (.tup xs) → Q (.ref p) H2) (hl : xs.length ≤ sizeLine) : xs.length ≤ sizeLine ∧ ∀ p, H p = none → Q (.ref p) (upd H p (.tup xs)) := ⟨hl, fun p hp => k p _ (Go.new hp) hp upd_same⟩
theorem newL {xs : List V} (k : ∀ p H2, Go [] H H2 → H p = none → H2 p = some (.lst xs) → Q (.ref p) H2) (hl : xs.length ≤ sizeLine) : xs.length ≤ sizeLine ∧ ∀ p, H p = none → Q (.ref p) (upd H p (.lst xs)) := ⟨hl, fun p hp => k p _ (Go.new hp) hp upd_same⟩
theorem c_tup0 {t : TA} (h : t σ H fun xs H1 => xs.length ≤ sizeLine ∧ ∀ p, H1 p = none → Q (.ref p) (upd H1 p (.tup xs))) : tTup t σ H Q := h
theorem c_lst0 {t : TA} (h : t σ H fun xs H1 => xs.length ≤ sizeLine ∧ ∀ p, H1 p = none → Q (.ref p) (upd H1 p (.lst xs))) : tLst t σ H Q := h
/-- an attribute -/
def FldR (K : PySem.W.Frag) (f : Str) (x : V) (H1 : Hp) (Q : VK) : Prop := ∃ a C dx fs v, x = .ref a ∧ H1 a = some (.ins C dx fs) ∧ Cls K C ∧ NoAttr K C f ∧ fs.lookup f = some v ∧ Q v H1
def SetR (K : PySem.W.Frag) (f : Str) (x y : V) (H2 : Hp) (q : Hp → Prop) : Prop := ∃ a C dx fs, x = .ref a ∧ H2 a = some (.ins C dx fs) ∧ Cls K C ∧ NoAttr K C f ∧ fs.length < 1000 ∧ q (upd H2 a (.ins C dx (putF f y fs)))
theorem c_fld {ta : TE} {f : Str} (h : ta σ H fun x H1 => FldR K f x H1 Q) : tFld K ta f σ H Q := h
theorem c_sfld {ta tv : TE} {f : Str} (h : tv σ H fun y H1 => ta σ H1 fun x H2 => SetR K f x y H2 (D.nx σ)) : sFld K ta tv f D σ H := h
theorem c_gfld {ta : TE} {f : Str} {v : V} {q : L2.St → Hp → Prop} (h : ta σ H fun x H2 => SetR K f x v H2 (q σ)) : gFld K ta f v σ H q := h
theorem c_fldaug {ta tv : TE} {rd : V → V → Hp → VK → Prop} {f : Str} (h : ta σ H fun x H1 => ∃ a C dx fs v, x = .ref a ∧ H1 a = some (.ins C dx fs) ∧ Cls K C ∧ NoAttr K C f ∧ fs.lookup f = some v ∧ tv σ H1 fun y H2 => rd v y H2 fun z H3 => ∃ dx' fs', H3 a = some (.ins C dx' fs') ∧ fs'.length < 1000 ∧ D.nx σ (upd H3 a (.ins C dx' (putF f z fs')))) : sFldAug K ta tv rd f D σ H := h
theorem fldR {C a dx : Addr} {f : Str} {ks : List Str} {vs : List V} {i : Nat} {v : V} (c : Cls K C) (n : NoAttr K C f) (nd : ks.Nodup) (hi : ks[i]? = some f) (h : H a = some (.ins C dx (ks.zip vs))) (hv : vs[i]? = some v) (q : Q v H) : FldR K f (.ref a) H Q :=
  ⟨a, C, dx, _, v, rfl, h, c, n, lookup_zip nd hi hv, q⟩
theorem setR {C a dx : Addr} {f : Str} {ks : List Str} {vs : List V} {i : Nat} {v : V} {q : Hp → Prop} (c : Cls K C) (n : NoAttr K C f) (nd : ks.Nodup) (hi : ks[i]? = some f) (h : H a = some (.ins C dx (ks.zip vs))) (hv : i < vs.length) (hl : vs.length < 100) (k : q (upd H a (.ins C dx (ks.zip (vs.set i v))))) : SetR K f (.ref a) v H q :=
  ⟨a, C, dx, _, rfl, h, c, n, by rw [List.length_zip]; omega, by rw [put_zip nd hi hv]; exact k⟩
theorem newR {C a dx : Addr} {f : Str} {ks ks' : List Str} {vs : List V} {v : V} {q : Hp → Prop} (c : Cls K C) (n : NoAttr K C f) (hn : ¬ f ∈ ks) (hk : ks' = ks ++ [f]) (h : H a = some (.ins C dx (ks.zip vs))) (hv : ks.length = vs.length) (hl : vs.length < 100) (k : q (upd H a (.ins C dx (ks'.zip (vs ++ [v]))))) : SetR K f (.ref a) v H q := by
  subst hk
  exact ⟨a, C, dx, _, rfl, h, c, n, by rw [List.length_zip]; omega, by rw [put_zip_new (ks' := ks) hv hn]; exact k⟩
/-- o.f op= e at an attribute that stands -/
theorem augR {C a dx : Addr} {f : Str} {ks : List Str} {vs : List V} {i : Nat} {x y : Int} {tv : TE} (c : Cls K C) (n : NoAttr K C f) (nd : ks.Nodup) (hi : ks[i]? = some f) (h : H a = some (.ins C dx (ks.zip vs))) (hv : vs[i]? = some (.int x)) (hl : vs.length < 100)
    (ht : ∀ q : VK, q (.int y) H → tv σ H q) (k : D.nx σ (upd H a (.ins C dx (ks.zip (vs.set i (.int (x + y))))))) :
    ∃ a' C' dx fs v, V.ref a = .ref a' ∧ H a' = some (.ins C' dx fs) ∧ Cls K C' ∧ NoAttr K C' f ∧ fs.lookup f = some v ∧ tv σ H fun y H2 => rAdd v y H2 fun z H3 => ∃ dx' fs', H3 a' = some (.ins C' dx' fs') ∧ fs'.length < 1000 ∧ D.nx σ (upd H3 a' (.ins C' dx' (putF f z fs'))) :=
  ⟨a, C, dx, _, _, rfl, h, c, n, lookup_zip nd hi hv, ht _ ⟨x, y, rfl, rfl, dx, _, h, by rw [List.length_zip]; omega, by rw [put_zip nd hi (List.getElem?_eq_some_iff.mp hv).1]; exact k⟩⟩
theorem ifd {p A B : Prop} [Decidable p] (h1 : p → A) (h2 : ¬ p → B) : if decide p = true then A else B := by
  by_cases h : p
  · rw [if_pos (decide_eq_true h)]
    exact h1 h
  · rw [if_neg (by rw [decide_eq_false h]; exact Bool.false_ne_true)]
    exact h2 h
theorem ifb {b : Bool} {A B : Prop} (h1 : b = true → A) (h2 : b = false → B) : if b = true then A else B := by
  cases b with
  | true => exact h1 rfl
  | false => exact h2 rfl
theorem len_list {p : Addr} {ys : List V} (h : SqL K H p ys ∨ SqT K H p ys) (q : Q (.int ys.length) H) : ∃ p' ys', [V.ref p] = [.ref p'] ∧ (SqL K H p' ys' ∨ SqT K H p' ys') ∧ Q (.int ys'.length) H := ⟨p, ys, rfl, h, q⟩
end
/-- a def's promise out of its body -/
theorem has_of {P : Program} {w : World} {K : PySem.W.Frag} {mg : Str → Option Value} {base : Heap} {x qual : Str} {params : Arguments} {body : List Stmt} {scope : Scope} {kws : List (Str × V)} {f : Addr} {N ps : List Str} {k : Nat} {sp : Sp}
    (F : ∃ fd, FunD K x qual params body scope [] kws f fd) (S : FnScope N ps scope)
    (hb : ∀ (kV doc pm : Value) (an : Option Addr) (cdv ct : Value) (us : List Value), us.length = ps.length → bindArgs (PySem.W.fnOf x qual params body scope .none kV doc pm an cdv ct) ⟨us, []⟩ = pure (ps.zip us))
    (len : ∀ vs H Q E, sp vs H Q E → vs.length = ps.length)
    (hbody : ∀ (cdv : Value) (A : Around) (outer : List Env) (s : Shared) (H : Hp) (vs : List V) (Q : VK) (E : XK), Room k (A.deeper (envOfC qual scope s.heap.objs.size f cdv)) → sp vs H Q E →
      ∃ t, PSs (cxOf CX0 P w K mg base N qual scope f cdv A outer s H E).nox body t ∧ t { nx := fun _ H' => Q .non H', rt := Q } (start N vs) H) : Has P w K mg base (k + 1) f ps [] sp := by
  obtain ⟨fd, F⟩ := F
  refine ⟨⟨fd, [], F.ok S len fun cdv A outer s H vs Q E hr h => ?_, F.bindsN hb, .nil⟩, F.kp⟩
  obtain ⟨t, h1, h2⟩ := hbody cdv A outer s H vs Q E hr h
  exact ⟨t, PSs.nox h1, h2⟩

theorem f_Speed_bits {K : PySem.W.Frag} {mg : Str → Option Value} (T : Txt K mg) {H : Hp} {a dx : Addr} {vs : List V} {v : V} {Q : VK} (h : H a = some (.ins (He.ga K "Speed") dx (kSpeed.zip vs))) (hv : vs[0]? = some v) (q : Q v H) : FldR K "bits" (.ref a) H Q :=
  fldR (c_Speed T) (na_Speed_bits T) kSpeed_nd (i := 0) (by rfl) h hv q
theorem s_Speed_bits {K : PySem.W.Frag} {mg : Str → Option Value} (T : Txt K mg) {H : Hp} {a dx : Addr} {vs : List V} {v : V} {q : Hp → Prop} (h : H a = some (.ins (He.ga K "Speed") dx (kSpeed.zip vs))) (hv : vs.length = 2) (k : q (upd H a (.ins (He.ga K "Speed") dx (kSpeed.zip (vs.set 0 v))))) : SetR K "bits" (.ref a) v H q :=
  setR (c_Speed T) (na_Speed_bits T) kSpeed_nd (i := 0) (by rfl) h (by omega) (by omega) k
theorem n_Speed_bits {K : PySem.W.Frag} {mg : Str → Option Value} (T : Txt K mg) {H : Hp} {a dx : Addr} {vs : List V} {v : V} {q : Hp → Prop} (h : H a = some (.ins (He.ga K "Speed") dx ((kSpeed.take 0).zip vs))) (hv : vs.length = 0) (k : q (upd H a (.ins (He.ga K "Speed") dx ((kSpeed.take 1).zip (vs ++ [v]))))) : SetR K "bits" (.ref a) v H q :=
  newR (c_Speed T) (na_Speed_bits T) (by decide +kernel) (by rfl) h (by rw [hv]; rfl) (by omega) k
theorem f_Speed_beats {K : PySem.W.Frag} {mg : Str → Option Value} (T : Txt K mg) {H : Hp} {a dx : Addr} {vs : List V} {v : V} {Q : VK} (h : H a = some (.ins (He.ga K "Speed") dx (kSpeed.zip vs))) (hv : vs[1]? = some v) (q : Q v H) : FldR K "beats" (.ref a) H Q :=
  fldR (c_Speed T) (na_Speed_beats T) kSpeed_nd (i := 1) (by rfl) h hv q
theorem s_Speed_beats {K : PySem.W.Frag} {mg : Str → Option Value} (T : Txt K mg) {H : Hp} {a dx : Addr} {vs : List V} {v : V} {q : Hp → Prop} (h : H a = some (.ins (He.ga K "Speed") dx (kSpeed.zip vs))) (hv : vs.length = 2) (k : q (upd H a (.ins (He.ga K "Speed") dx (kSpeed.zip (vs.set 1 v))))) : SetR K "beats" (.ref a) v H q :=
  setR (c_Speed T) (na_Speed_beats T) kSpeed_nd (i := 1) (by rfl) h (by omega) (by omega) k
theorem n_Speed_beats {K : PySem.W.Frag} {mg : Str → Option Value} (T : Txt K mg) {H : Hp} {a dx : Addr} {vs : List V} {v : V} {q : Hp → Prop} (h : H a = some (.ins (He.ga K "Speed") dx ((kSpeed.take 1).zip vs))) (hv : vs.length = 1) (k : q (upd H a (.ins (He.ga K "Speed") dx ((kSpeed.take 2).zip (vs ++ [v]))))) : SetR K "beats" (.ref a) v H q :=
  newR (c_Speed T) (na_Speed_beats T) (by decide +kernel) (by rfl) h (by rw [hv]; rfl) (by omega) k
theorem f_Player_talk_told {K : PySem.W.Frag} {mg : Str → Option Value} (T : Txt K mg) {H : Hp} {a dx : Addr} {vs : List V} {v : V} {Q : VK} (h : H a = some (.ins (He.ga K "Player") dx (kPlayer.zip vs))) (hv : vs[0]? = some v) (q : Q v H) : FldR K "talk_told" (.ref a) H Q :=
  fldR (c_Player T) (na_Player_talk_told T) kPlayer_nd (i := 0) (by rfl) h hv q
theorem s_Player_talk_told {K : PySem.W.Frag} {mg : Str → Option Value} (T : Txt K mg) {H : Hp} {a dx : Addr} {vs : List V} {v : V} {q : Hp → Prop} (h : H a = some (.ins (He.ga K "Player") dx (kPlayer.zip vs))) (hv : vs.length = 9) (k : q (upd H a (.ins (He.ga K "Player") dx (kPlayer.zip (vs.set 0 v))))) : SetR K "talk_told" (.ref a) v H q :=
  setR (c_Player T) (na_Player_talk_told T) kPlayer_nd (i := 0) (by rfl) h (by omega) (by omega) k
theorem n_Player_talk_told {K : PySem.W.Frag} {mg : Str → Option Value} (T : Txt K mg) {H : Hp} {a dx : Addr} {vs : List V} {v : V} {q : Hp → Prop} (h : H a = some (.ins (He.ga K "Player") dx ((kPlayer.take 0).zip vs))) (hv : vs.length = 0) (k : q (upd H a (.ins (He.ga K "Player") dx ((kPlayer.take 1).zip (vs ++ [v]))))) : SetR K "talk_told" (.ref a) v H q :=
  newR (c_Player T) (na_Player_talk_told T) (by decide +kernel) (by rfl) h (by rw [hv]; rfl) (by omega) k
theorem f_Player_options_told {K : PySem.W.Frag} {mg : Str → Option Value} (T : Txt K mg) {H : Hp} {a dx : Addr} {vs : List V} {v : V} {Q : VK} (h : H a = some (.ins (He.ga K "Player") dx (kPlayer.zip vs))) (hv : vs[1]? = some v) (q : Q v H) : FldR K "options_told" (.ref a) H Q :=
  fldR (c_Player T) (na_Player_options_told T) kPlayer_nd (i := 1) (by rfl) h hv q
theorem s_Player_options_told {K : PySem.W.Frag} {mg : Str → Option Value} (T : Txt K mg) {H : Hp} {a dx : Addr} {vs : List V} {v : V} {q : Hp → Prop} (h : H a = some (.ins (He.ga K "Player") dx (kPlayer.zip vs))) (hv : vs.length = 9) (k : q (upd H a (.ins (He.ga K "Player") dx (kPlayer.zip (vs.set 1 v))))) : SetR K "options_told" (.ref a) v H q :=
  setR (c_Player T) (na_Player_options_told T) kPlayer_nd (i := 1) (by rfl) h (by omega) (by omega) k
theorem n_Player_options_told {K : PySem.W.Frag} {mg : Str → Option Value} (T : Txt K mg) {H : Hp} {a dx : Addr} {vs : List V} {v : V} {q : Hp → Prop} (h : H a = some (.ins (He.ga K "Player") dx ((kPlayer.take 1).zip vs))) (hv : vs.length = 1) (k : q (upd H a (.ins (He.ga K "Player") dx ((kPlayer.take 2).zip (vs ++ [v]))))) : SetR K "options_told" (.ref a) v H q :=
  newR (c_Player T) (na_Player_options_told T) (by decide +kernel) (by rfl) h (by rw [hv]; rfl) (by omega) k
theorem f_Player_stand_here {K : PySem.W.Frag} {mg : Str → Option Value} (T : Txt K mg) {H : Hp} {a dx : Addr} {vs : List V} {v : V} {Q : VK} (h : H a = some (.ins (He.ga K "Player") dx (kPlayer.zip vs))) (hv : vs[2]? = some v) (q : Q v H) : FldR K "stand_here" (.ref a) H Q :=
  fldR (c_Player T) (na_Player_stand_here T) kPlayer_nd (i := 2) (by rfl) h hv q
theorem s_Player_stand_here {K : PySem.W.Frag} {mg : Str → Option Value} (T : Txt K mg) {H : Hp} {a dx : Addr} {vs : List V} {v : V} {q : Hp → Prop} (h : H a = some (.ins (He.ga K "Player") dx (kPlayer.zip vs))) (hv : vs.length = 9) (k : q (upd H a (.ins (He.ga K "Player") dx (kPlayer.zip (vs.set 2 v))))) : SetR K "stand_here" (.ref a) v H q :=
  setR (c_Player T) (na_Player_stand_here T) kPlayer_nd (i := 2) (by rfl) h (by omega) (by omega) k
theorem n_Player_stand_here {K : PySem.W.Frag} {mg : Str → Option Value} (T : Txt K mg) {H : Hp} {a dx : Addr} {vs : List V} {v : V} {q : Hp → Prop} (h : H a = some (.ins (He.ga K "Player") dx ((kPlayer.take 2).zip vs))) (hv : vs.length = 2) (k : q (upd H a (.ins (He.ga K "Player") dx ((kPlayer.take 3).zip (vs ++ [v]))))) : SetR K "stand_here" (.ref a) v H q :=
  newR (c_Player T) (na_Player_stand_here T) (by decide +kernel) (by rfl) h (by rw [hv]; rfl) (by omega) k
theorem f_Player_fetch_beats {K : PySem.W.Frag} {mg : Str → Option Value} (T : Txt K mg) {H : Hp} {a dx : Addr} {vs : List V} {v : V} {Q : VK} (h : H a = some (.ins (He.ga K "Player") dx (kPlayer.zip vs))) (hv : vs[3]? = some v) (q : Q v H) : FldR K "fetch_beats" (.ref a) H Q :=
  fldR (c_Player T) (na_Player_fetch_beats T) kPlayer_nd (i := 3) (by rfl) h hv q
theorem s_Player_fetch_beats {K : PySem.W.Frag} {mg : Str → Option Value} (T : Txt K mg) {H : Hp} {a dx : Addr} {vs : List V} {v : V} {q : Hp → Prop} (h : H a = some (.ins (He.ga K "Player") dx (kPlayer.zip vs))) (hv : vs.length = 9) (k : q (upd H a (.ins (He.ga K "Player") dx (kPlayer.zip (vs.set 3 v))))) : SetR K "fetch_beats" (.ref a) v H q :=
  setR (c_Player T) (na_Player_fetch_beats T) kPlayer_nd (i := 3) (by rfl) h (by omega) (by omega) k
theorem n_Player_fetch_beats {K : PySem.W.Frag} {mg : Str → Option Value} (T : Txt K mg) {H : Hp} {a dx : Addr} {vs : List V} {v : V} {q : Hp → Prop} (h : H a = some (.ins (He.ga K "Player") dx ((kPlayer.take 3).zip vs))) (hv : vs.length = 3) (k : q (upd H a (.ins (He.ga K "Player") dx ((kPlayer.take 4).zip (vs ++ [v]))))) : SetR K "fetch_beats" (.ref a) v H q :=
  newR (c_Player T) (na_Player_fetch_beats T) (by decide +kernel) (by rfl) h (by rw [hv]; rfl) (by omega) k
theorem f_Player_beats_gone {K : PySem.W.Frag} {mg : Str → Option Value} (T : Txt K mg) {H : Hp} {a dx : Addr} {vs : List V} {v : V} {Q : VK} (h : H a = some (.ins (He.ga K "Player") dx (kPlayer.zip vs))) (hv : vs[4]? = some v) (q : Q v H) : FldR K "beats_gone" (.ref a) H Q :=
  fldR (c_Player T) (na_Player_beats_gone T) kPlayer_nd (i := 4) (by rfl) h hv q
theorem s_Player_beats_gone {K : PySem.W.Frag} {mg : Str → Option Value} (T : Txt K mg) {H : Hp} {a dx : Addr} {vs : List V} {v : V} {q : Hp → Prop} (h : H a = some (.ins (He.ga K "Player") dx (kPlayer.zip vs))) (hv : vs.length = 9) (k : q (upd H a (.ins (He.ga K "Player") dx (kPlayer.zip (vs.set 4 v))))) : SetR K "beats_gone" (.ref a) v H q :=
  setR (c_Player T) (na_Player_beats_gone T) kPlayer_nd (i := 4) (by rfl) h (by omega) (by omega) k
theorem n_Player_beats_gone {K : PySem.W.Frag} {mg : Str → Option Value} (T : Txt K mg) {H : Hp} {a dx : Addr} {vs : List V} {v : V} {q : Hp → Prop} (h : H a = some (.ins (He.ga K "Player") dx ((kPlayer.take 4).zip vs))) (hv : vs.length = 4) (k : q (upd H a (.ins (He.ga K "Player") dx ((kPlayer.take 5).zip (vs ++ [v]))))) : SetR K "beats_gone" (.ref a) v H q :=
  newR (c_Player T) (na_Player_beats_gone T) (by decide +kernel) (by rfl) h (by rw [hv]; rfl) (by omega) k
theorem f_Player_beats_thrown {K : PySem.W.Frag} {mg : Str → Option Value} (T : Txt K mg) {H : Hp} {a dx : Addr} {vs : List V} {v : V} {Q : VK} (h : H a = some (.ins (He.ga K "Player") dx (kPlayer.zip vs))) (hv : vs[5]? = some v) (q : Q v H) : FldR K "beats_thrown" (.ref a) H Q :=
  fldR (c_Player T) (na_Player_beats_thrown T) kPlayer_nd (i := 5) (by rfl) h hv q
theorem s_Player_beats_thrown {K : PySem.W.Frag} {mg : Str → Option Value} (T : Txt K mg) {H : Hp} {a dx : Addr} {vs : List V} {v : V} {q : Hp → Prop} (h : H a = some (.ins (He.ga K "Player") dx (kPlayer.zip vs))) (hv : vs.length = 9) (k : q (upd H a (.ins (He.ga K "Player") dx (kPlayer.zip (vs.set 5 v))))) : SetR K "beats_thrown" (.ref a) v H q :=
  setR (c_Player T) (na_Player_beats_thrown T) kPlayer_nd (i := 5) (by rfl) h (by omega) (by omega) k
theorem n_Player_beats_thrown {K : PySem.W.Frag} {mg : Str → Option Value} (T : Txt K mg) {H : Hp} {a dx : Addr} {vs : List V} {v : V} {q : Hp → Prop} (h : H a = some (.ins (He.ga K "Player") dx ((kPlayer.take 5).zip vs))) (hv : vs.length = 5) (k : q (upd H a (.ins (He.ga K "Player") dx ((kPlayer.take 6).zip (vs ++ [v]))))) : SetR K "beats_thrown" (.ref a) v H q :=
  newR (c_Player T) (na_Player_beats_thrown T) (by decide +kernel) (by rfl) h (by rw [hv]; rfl) (by omega) k
theorem f_Player_rate_last {K : PySem.W.Frag} {mg : Str → Option Value} (T : Txt K mg) {H : Hp} {a dx : Addr} {vs : List V} {v : V} {Q : VK} (h : H a = some (.ins (He.ga K "Player") dx (kPlayer.zip vs))) (hv : vs[6]? = some v) (q : Q v H) : FldR K "rate_last" (.ref a) H Q :=
  fldR (c_Player T) (na_Player_rate_last T) kPlayer_nd (i := 6) (by rfl) h hv q
theorem s_Player_rate_last {K : PySem.W.Frag} {mg : Str → Option Value} (T : Txt K mg) {H : Hp} {a dx : Addr} {vs : List V} {v : V} {q : Hp → Prop} (h : H a = some (.ins (He.ga K "Player") dx (kPlayer.zip vs))) (hv : vs.length = 9) (k : q (upd H a (.ins (He.ga K "Player") dx (kPlayer.zip (vs.set 6 v))))) : SetR K "rate_last" (.ref a) v H q :=
  setR (c_Player T) (na_Player_rate_last T) kPlayer_nd (i := 6) (by rfl) h (by omega) (by omega) k
theorem n_Player_rate_last {K : PySem.W.Frag} {mg : Str → Option Value} (T : Txt K mg) {H : Hp} {a dx : Addr} {vs : List V} {v : V} {q : Hp → Prop} (h : H a = some (.ins (He.ga K "Player") dx ((kPlayer.take 6).zip vs))) (hv : vs.length = 6) (k : q (upd H a (.ins (He.ga K "Player") dx ((kPlayer.take 7).zip (vs ++ [v]))))) : SetR K "rate_last" (.ref a) v H q :=
  newR (c_Player T) (na_Player_rate_last T) (by decide +kernel) (by rfl) h (by rw [hv]; rfl) (by omega) k
theorem f_Player_speed_last {K : PySem.W.Frag} {mg : Str → Option Value} (T : Txt K mg) {H : Hp} {a dx : Addr} {vs : List V} {v : V} {Q : VK} (h : H a = some (.ins (He.ga K "Player") dx (kPlayer.zip vs))) (hv : vs[7]? = some v) (q : Q v H) : FldR K "speed_last" (.ref a) H Q :=
  fldR (c_Player T) (na_Player_speed_last T) kPlayer_nd (i := 7) (by rfl) h hv q
theorem s_Player_speed_last {K : PySem.W.Frag} {mg : Str → Option Value} (T : Txt K mg) {H : Hp} {a dx : Addr} {vs : List V} {v : V} {q : Hp → Prop} (h : H a = some (.ins (He.ga K "Player") dx (kPlayer.zip vs))) (hv : vs.length = 9) (k : q (upd H a (.ins (He.ga K "Player") dx (kPlayer.zip (vs.set 7 v))))) : SetR K "speed_last" (.ref a) v H q :=
  setR (c_Player T) (na_Player_speed_last T) kPlayer_nd (i := 7) (by rfl) h (by omega) (by omega) k
theorem n_Player_speed_last {K : PySem.W.Frag} {mg : Str → Option Value} (T : Txt K mg) {H : Hp} {a dx : Addr} {vs : List V} {v : V} {q : Hp → Prop} (h : H a = some (.ins (He.ga K "Player") dx ((kPlayer.take 7).zip vs))) (hv : vs.length = 7) (k : q (upd H a (.ins (He.ga K "Player") dx ((kPlayer.take 8).zip (vs ++ [v]))))) : SetR K "speed_last" (.ref a) v H q :=
  newR (c_Player T) (na_Player_speed_last T) (by decide +kernel) (by rfl) h (by rw [hv]; rfl) (by omega) k
theorem f_Player_deeds_noted {K : PySem.W.Frag} {mg : Str → Option Value} (T : Txt K mg) {H : Hp} {a dx : Addr} {vs : List V} {v : V} {Q : VK} (h : H a = some (.ins (He.ga K "Player") dx (kPlayer.zip vs))) (hv : vs[8]? = some v) (q : Q v H) : FldR K "deeds_noted" (.ref a) H Q :=
  fldR (c_Player T) (na_Player_deeds_noted T) kPlayer_nd (i := 8) (by rfl) h hv q
theorem s_Player_deeds_noted {K : PySem.W.Frag} {mg : Str → Option Value} (T : Txt K mg) {H : Hp} {a dx : Addr} {vs : List V} {v : V} {q : Hp → Prop} (h : H a = some (.ins (He.ga K "Player") dx (kPlayer.zip vs))) (hv : vs.length = 9) (k : q (upd H a (.ins (He.ga K "Player") dx (kPlayer.zip (vs.set 8 v))))) : SetR K "deeds_noted" (.ref a) v H q :=
  setR (c_Player T) (na_Player_deeds_noted T) kPlayer_nd (i := 8) (by rfl) h (by omega) (by omega) k
theorem n_Player_deeds_noted {K : PySem.W.Frag} {mg : Str → Option Value} (T : Txt K mg) {H : Hp} {a dx : Addr} {vs : List V} {v : V} {q : Hp → Prop} (h : H a = some (.ins (He.ga K "Player") dx ((kPlayer.take 8).zip vs))) (hv : vs.length = 8) (k : q (upd H a (.ins (He.ga K "Player") dx ((kPlayer.take 9).zip (vs ++ [v]))))) : SetR K "deeds_noted" (.ref a) v H q :=
  newR (c_Player T) (na_Player_deeds_noted T) (by decide +kernel) (by rfl) h (by rw [hv]; rfl) (by omega) k
theorem f_Road_pieces {K : PySem.W.Frag} {mg : Str → Option Value} (T : Txt K mg) {H : Hp} {a dx : Addr} {vs : List V} {v : V} {Q : VK} (h : H a = some (.ins (He.ga K "Road") dx (kRoad.zip vs))) (hv : vs[0]? = some v) (q : Q v H) : FldR K "pieces" (.ref a) H Q :=
  fldR (c_Road T) (na_Road_pieces T) kRoad_nd (i := 0) (by rfl) h hv q
theorem s_Road_pieces {K : PySem.W.Frag} {mg : Str → Option Value} (T : Txt K mg) {H : Hp} {a dx : Addr} {vs : List V} {v : V} {q : Hp → Prop} (h : H a = some (.ins (He.ga K "Road") dx (kRoad.zip vs))) (hv : vs.length = 1) (k : q (upd H a (.ins (He.ga K "Road") dx (kRoad.zip (vs.set 0 v))))) : SetR K "pieces" (.ref a) v H q :=
  setR (c_Road T) (na_Road_pieces T) kRoad_nd (i := 0) (by rfl) h (by omega) (by omega) k
theorem n_Road_pieces {K : PySem.W.Frag} {mg : Str → Option Value} (T : Txt K mg) {H : Hp} {a dx : Addr} {vs : List V} {v : V} {q : Hp → Prop} (h : H a = some (.ins (He.ga K "Road") dx ((kRoad.take 0).zip vs))) (hv : vs.length = 0) (k : q (upd H a (.ins (He.ga K "Road") dx ((kRoad.take 1).zip (vs ++ [v]))))) : SetR K "pieces" (.ref a) v H q :=
  newR (c_Road T) (na_Road_pieces T) (by decide +kernel) (by rfl) h (by rw [hv]; rfl) (by omega) k
theorem f_Walk_talk_walked {K : PySem.W.Frag} {mg : Str → Option Value} (T : Txt K mg) {H : Hp} {a dx : Addr} {vs : List V} {v : V} {Q : VK} (h : H a = some (.ins (He.ga K "Walk") dx (kWalk.zip vs))) (hv : vs[0]? = some v) (q : Q v H) : FldR K "talk_walked" (.ref a) H Q :=
  fldR (c_Walk T) (na_Walk_talk_walked T) kWalk_nd (i := 0) (by rfl) h hv q
theorem s_Walk_talk_walked {K : PySem.W.Frag} {mg : Str → Option Value} (T : Txt K mg) {H : Hp} {a dx : Addr} {vs : List V} {v : V} {q : Hp → Prop} (h : H a = some (.ins (He.ga K "Walk") dx (kWalk.zip vs))) (hv : vs.length = 15) (k : q (upd H a (.ins (He.ga K "Walk") dx (kWalk.zip (vs.set 0 v))))) : SetR K "talk_walked" (.ref a) v H q :=
  setR (c_Walk T) (na_Walk_talk_walked T) kWalk_nd (i := 0) (by rfl) h (by omega) (by omega) k
theorem n_Walk_talk_walked {K : PySem.W.Frag} {mg : Str → Option Value} (T : Txt K mg) {H : Hp} {a dx : Addr} {vs : List V} {v : V} {q : Hp → Prop} (h : H a = some (.ins (He.ga K "Walk") dx ((kWalk.take 0).zip vs))) (hv : vs.length = 0) (k : q (upd H a (.ins (He.ga K "Walk") dx ((kWalk.take 1).zip (vs ++ [v]))))) : SetR K "talk_walked" (.ref a) v H q :=
  newR (c_Walk T) (na_Walk_talk_walked T) (by decide +kernel) (by rfl) h (by rw [hv]; rfl) (by omega) k
theorem f_Walk_chooser_asked {K : PySem.W.Frag} {mg : Str → Option Value} (T : Txt K mg) {H : Hp} {a dx : Addr} {vs : List V} {v : V} {Q : VK} (h : H a = some (.ins (He.ga K "Walk") dx (kWalk.zip vs))) (hv : vs[1]? = some v) (q : Q v H) : FldR K "chooser_asked" (.ref a) H Q :=
  fldR (c_Walk T) (na_Walk_chooser_asked T) kWalk_nd (i := 1) (by rfl) h hv q
theorem s_Walk_chooser_asked {K : PySem.W.Frag} {mg : Str → Option Value} (T : Txt K mg) {H : Hp} {a dx : Addr} {vs : List V} {v : V} {q : Hp → Prop} (h : H a = some (.ins (He.ga K "Walk") dx (kWalk.zip vs))) (hv : vs.length = 15) (k : q (upd H a (.ins (He.ga K "Walk") dx (kWalk.zip (vs.set 1 v))))) : SetR K "chooser_asked" (.ref a) v H q :=
  setR (c_Walk T) (na_Walk_chooser_asked T) kWalk_nd (i := 1) (by rfl) h (by omega) (by omega) k
theorem n_Walk_chooser_asked {K : PySem.W.Frag} {mg : Str → Option Value} (T : Txt K mg) {H : Hp} {a dx : Addr} {vs : List V} {v : V} {q : Hp → Prop} (h : H a = some (.ins (He.ga K "Walk") dx ((kWalk.take 1).zip vs))) (hv : vs.length = 1) (k : q (upd H a (.ins (He.ga K "Walk") dx ((kWalk.take 2).zip (vs ++ [v]))))) : SetR K "chooser_asked" (.ref a) v H q :=
  newR (c_Walk T) (na_Walk_chooser_asked T) (by decide +kernel) (by rfl) h (by rw [hv]; rfl) (by omega) k
theorem f_Walk_limits {K : PySem.W.Frag} {mg : Str → Option Value} (T : Txt K mg) {H : Hp} {a dx : Addr} {vs : List V} {v : V} {Q : VK} (h : H a = some (.ins (He.ga K "Walk") dx (kWalk.zip vs))) (hv : vs[2]? = some v) (q : Q v H) : FldR K "limits" (.ref a) H Q :=
  fldR (c_Walk T) (na_Walk_limits T) kWalk_nd (i := 2) (by rfl) h hv q
theorem s_Walk_limits {K : PySem.W.Frag} {mg : Str → Option Value} (T : Txt K mg) {H : Hp} {a dx : Addr} {vs : List V} {v : V} {q : Hp → Prop} (h : H a = some (.ins (He.ga K "Walk") dx (kWalk.zip vs))) (hv : vs.length = 15) (k : q (upd H a (.ins (He.ga K "Walk") dx (kWalk.zip (vs.set 2 v))))) : SetR K "limits" (.ref a) v H q :=
  setR (c_Walk T) (na_Walk_limits T) kWalk_nd (i := 2) (by rfl) h (by omega) (by omega) k
theorem n_Walk_limits {K : PySem.W.Frag} {mg : Str → Option Value} (T : Txt K mg) {H : Hp} {a dx : Addr} {vs : List V} {v : V} {q : Hp → Prop} (h : H a = some (.ins (He.ga K "Walk") dx ((kWalk.take 2).zip vs))) (hv : vs.length = 2) (k : q (upd H a (.ins (He.ga K "Walk") dx ((kWalk.take 3).zip (vs ++ [v]))))) : SetR K "limits" (.ref a) v H q :=
  newR (c_Walk T) (na_Walk_limits T) (by decide +kernel) (by rfl) h (by rw [hv]; rfl) (by omega) k
theorem f_Walk_waiting {K : PySem.W.Frag} {mg : Str → Option Value} (T : Txt K mg) {H : Hp} {a dx : Addr} {vs : List V} {v : V} {Q : VK} (h : H a = some (.ins (He.ga K "Walk") dx (kWalk.zip vs))) (hv : vs[3]? = some v) (q : Q v H) : FldR K "waiting" (.ref a) H Q :=
  fldR (c_Walk T) (na_Walk_waiting T) kWalk_nd (i := 3) (by rfl) h hv q
theorem s_Walk_waiting {K : PySem.W.Frag} {mg : Str → Option Value} (T : Txt K mg) {H : Hp} {a dx : Addr} {vs : List V} {v : V} {q : Hp → Prop} (h : H a = some (.ins (He.ga K "Walk") dx (kWalk.zip vs))) (hv : vs.length = 15) (k : q (upd H a (.ins (He.ga K "Walk") dx (kWalk.zip (vs.set 3 v))))) : SetR K "waiting" (.ref a) v H q :=
  setR (c_Walk T) (na_Walk_waiting T) kWalk_nd (i := 3) (by rfl) h (by omega) (by omega) k
theorem n_Walk_waiting {K : PySem.W.Frag} {mg : Str → Option Value} (T : Txt K mg) {H : Hp} {a dx : Addr} {vs : List V} {v : V} {q : Hp → Prop} (h : H a = some (.ins (He.ga K "Walk") dx ((kWalk.take 3).zip vs))) (hv : vs.length = 3) (k : q (upd H a (.ins (He.ga K "Walk") dx ((kWalk.take 4).zip (vs ++ [v]))))) : SetR K "waiting" (.ref a) v H q :=
  newR (c_Walk T) (na_Walk_waiting T) (by decide +kernel) (by rfl) h (by rw [hv]; rfl) (by omega) k
theorem f_Walk_opening {K : PySem.W.Frag} {mg : Str → Option Value} (T : Txt K mg) {H : Hp} {a dx : Addr} {vs : List V} {v : V} {Q : VK} (h : H a = some (.ins (He.ga K "Walk") dx (kWalk.zip vs))) (hv : vs[4]? = some v) (q : Q v H) : FldR K "opening" (.ref a) H Q :=
  fldR (c_Walk T) (na_Walk_opening T) kWalk_nd (i := 4) (by rfl) h hv q
theorem s_Walk_opening {K : PySem.W.Frag} {mg : Str → Option Value} (T : Txt K mg) {H : Hp} {a dx : Addr} {vs : List V} {v : V} {q : Hp → Prop} (h : H a = some (.ins (He.ga K "Walk") dx (kWalk.zip vs))) (hv : vs.length = 15) (k : q (upd H a (.ins (He.ga K "Walk") dx (kWalk.zip (vs.set 4 v))))) : SetR K "opening" (.ref a) v H q :=
  setR (c_Walk T) (na_Walk_opening T) kWalk_nd (i := 4) (by rfl) h (by omega) (by omega) k
theorem n_Walk_opening {K : PySem.W.Frag} {mg : Str → Option Value} (T : Txt K mg) {H : Hp} {a dx : Addr} {vs : List V} {v : V} {q : Hp → Prop} (h : H a = some (.ins (He.ga K "Walk") dx ((kWalk.take 4).zip vs))) (hv : vs.length = 4) (k : q (upd H a (.ins (He.ga K "Walk") dx ((kWalk.take 5).zip (vs ++ [v]))))) : SetR K "opening" (.ref a) v H q :=
  newR (c_Walk T) (na_Walk_opening T) (by decide +kernel) (by rfl) h (by rw [hv]; rfl) (by omega) k
theorem f_Walk_stand_here {K : PySem.W.Frag} {mg : Str → Option Value} (T : Txt K mg) {H : Hp} {a dx : Addr} {vs : List V} {v : V} {Q : VK} (h : H a = some (.ins (He.ga K "Walk") dx (kWalk.zip vs))) (hv : vs[5]? = some v) (q : Q v H) : FldR K "stand_here" (.ref a) H Q :=
  fldR (c_Walk T) (na_Walk_stand_here T) kWalk_nd (i := 5) (by rfl) h hv q
theorem s_Walk_stand_here {K : PySem.W.Frag} {mg : Str → Option Value} (T : Txt K mg) {H : Hp} {a dx : Addr} {vs : List V} {v : V} {q : Hp → Prop} (h : H a = some (.ins (He.ga K "Walk") dx (kWalk.zip vs))) (hv : vs.length = 15) (k : q (upd H a (.ins (He.ga K "Walk") dx (kWalk.zip (vs.set 5 v))))) : SetR K "stand_here" (.ref a) v H q :=
  setR (c_Walk T) (na_Walk_stand_here T) kWalk_nd (i := 5) (by rfl) h (by omega) (by omega) k
theorem n_Walk_stand_here {K : PySem.W.Frag} {mg : Str → Option Value} (T : Txt K mg) {H : Hp} {a dx : Addr} {vs : List V} {v : V} {q : Hp → Prop} (h : H a = some (.ins (He.ga K "Walk") dx ((kWalk.take 5).zip vs))) (hv : vs.length = 5) (k : q (upd H a (.ins (He.ga K "Walk") dx ((kWalk.take 6).zip (vs ++ [v]))))) : SetR K "stand_here" (.ref a) v H q :=
  newR (c_Walk T) (na_Walk_stand_here T) (by decide +kernel) (by rfl) h (by rw [hv]; rfl) (by omega) k
theorem f_Walk_beat_here {K : PySem.W.Frag} {mg : Str → Option Value} (T : Txt K mg) {H : Hp} {a dx : Addr} {vs : List V} {v : V} {Q : VK} (h : H a = some (.ins (He.ga K "Walk") dx (kWalk.zip vs))) (hv : vs[6]? = some v) (q : Q v H) : FldR K "beat_here" (.ref a) H Q :=
  fldR (c_Walk T) (na_Walk_beat_here T) kWalk_nd (i := 6) (by rfl) h hv q
theorem s_Walk_beat_here {K : PySem.W.Frag} {mg : Str → Option Value} (T : Txt K mg) {H : Hp} {a dx : Addr} {vs : List V} {v : V} {q : Hp → Prop} (h : H a = some (.ins (He.ga K "Walk") dx (kWalk.zip vs))) (hv : vs.length = 15) (k : q (upd H a (.ins (He.ga K "Walk") dx (kWalk.zip (vs.set 6 v))))) : SetR K "beat_here" (.ref a) v H q :=
  setR (c_Walk T) (na_Walk_beat_here T) kWalk_nd (i := 6) (by rfl) h (by omega) (by omega) k
theorem n_Walk_beat_here {K : PySem.W.Frag} {mg : Str → Option Value} (T : Txt K mg) {H : Hp} {a dx : Addr} {vs : List V} {v : V} {q : Hp → Prop} (h : H a = some (.ins (He.ga K "Walk") dx ((kWalk.take 6).zip vs))) (hv : vs.length = 6) (k : q (upd H a (.ins (He.ga K "Walk") dx ((kWalk.take 7).zip (vs ++ [v]))))) : SetR K "beat_here" (.ref a) v H q :=
  newR (c_Walk T) (na_Walk_beat_here T) (by decide +kernel) (by rfl) h (by rw [hv]; rfl) (by omega) k
theorem f_Walk_rate_last {K : PySem.W.Frag} {mg : Str → Option Value} (T : Txt K mg) {H : Hp} {a dx : Addr} {vs : List V} {v : V} {Q : VK} (h : H a = some (.ins (He.ga K "Walk") dx (kWalk.zip vs))) (hv : vs[7]? = some v) (q : Q v H) : FldR K "rate_last" (.ref a) H Q :=
  fldR (c_Walk T) (na_Walk_rate_last T) kWalk_nd (i := 7) (by rfl) h hv q
theorem s_Walk_rate_last {K : PySem.W.Frag} {mg : Str → Option Value} (T : Txt K mg) {H : Hp} {a dx : Addr} {vs : List V} {v : V} {q : Hp → Prop} (h : H a = some (.ins (He.ga K "Walk") dx (kWalk.zip vs))) (hv : vs.length = 15) (k : q (upd H a (.ins (He.ga K "Walk") dx (kWalk.zip (vs.set 7 v))))) : SetR K "rate_last" (.ref a) v H q :=
  setR (c_Walk T) (na_Walk_rate_last T) kWalk_nd (i := 7) (by rfl) h (by omega) (by omega) k
theorem n_Walk_rate_last {K : PySem.W.Frag} {mg : Str → Option Value} (T : Txt K mg) {H : Hp} {a dx : Addr} {vs : List V} {v : V} {q : Hp → Prop} (h : H a = some (.ins (He.ga K "Walk") dx ((kWalk.take 7).zip vs))) (hv : vs.length = 7) (k : q (upd H a (.ins (He.ga K "Walk") dx ((kWalk.take 8).zip (vs ++ [v]))))) : SetR K "rate_last" (.ref a) v H q :=
  newR (c_Walk T) (na_Walk_rate_last T) (by decide +kernel) (by rfl) h (by rw [hv]; rfl) (by omega) k
theorem f_Walk_speed_last {K : PySem.W.Frag} {mg : Str → Option Value} (T : Txt K mg) {H : Hp} {a dx : Addr} {vs : List V} {v : V} {Q : VK} (h : H a = some (.ins (He.ga K "Walk") dx (kWalk.zip vs))) (hv : vs[8]? = some v) (q : Q v H) : FldR K "speed_last" (.ref a) H Q :=
  fldR (c_Walk T) (na_Walk_speed_last T) kWalk_nd (i := 8) (by rfl) h hv q
theorem s_Walk_speed_last {K : PySem.W.Frag} {mg : Str → Option Value} (T : Txt K mg) {H : Hp} {a dx : Addr} {vs : List V} {v : V} {q : Hp → Prop} (h : H a = some (.ins (He.ga K "Walk") dx (kWalk.zip vs))) (hv : vs.length = 15) (k : q (upd H a (.ins (He.ga K "Walk") dx (kWalk.zip (vs.set 8 v))))) : SetR K "speed_last" (.ref a) v H q :=
  setR (c_Walk T) (na_Walk_speed_last T) kWalk_nd (i := 8) (by rfl) h (by omega) (by omega) k
theorem n_Walk_speed_last {K : PySem.W.Frag} {mg : Str → Option Value} (T : Txt K mg) {H : Hp} {a dx : Addr} {vs : List V} {v : V} {q : Hp → Prop} (h : H a = some (.ins (He.ga K "Walk") dx ((kWalk.take 8).zip vs))) (hv : vs.length = 8) (k : q (upd H a (.ins (He.ga K "Walk") dx ((kWalk.take 9).zip (vs ++ [v]))))) : SetR K "speed_last" (.ref a) v H q :=
  newR (c_Walk T) (na_Walk_speed_last T) (by decide +kernel) (by rfl) h (by rw [hv]; rfl) (by omega) k
theorem f_Walk_rates {K : PySem.W.Frag} {mg : Str → Option Value} (T : Txt K mg) {H : Hp} {a dx : Addr} {vs : List V} {v : V} {Q : VK} (h : H a = some (.ins (He.ga K "Walk") dx (kWalk.zip vs))) (hv : vs[9]? = some v) (q : Q v H) : FldR K "rates" (.ref a) H Q :=
  fldR (c_Walk T) (na_Walk_rates T) kWalk_nd (i := 9) (by rfl) h hv q
theorem s_Walk_rates {K : PySem.W.Frag} {mg : Str → Option Value} (T : Txt K mg) {H : Hp} {a dx : Addr} {vs : List V} {v : V} {q : Hp → Prop} (h : H a = some (.ins (He.ga K "Walk") dx (kWalk.zip vs))) (hv : vs.length = 15) (k : q (upd H a (.ins (He.ga K "Walk") dx (kWalk.zip (vs.set 9 v))))) : SetR K "rates" (.ref a) v H q :=
  setR (c_Walk T) (na_Walk_rates T) kWalk_nd (i := 9) (by rfl) h (by omega) (by omega) k
theorem n_Walk_rates {K : PySem.W.Frag} {mg : Str → Option Value} (T : Txt K mg) {H : Hp} {a dx : Addr} {vs : List V} {v : V} {q : Hp → Prop} (h : H a = some (.ins (He.ga K "Walk") dx ((kWalk.take 9).zip vs))) (hv : vs.length = 9) (k : q (upd H a (.ins (He.ga K "Walk") dx ((kWalk.take 10).zip (vs ++ [v]))))) : SetR K "rates" (.ref a) v H q :=
  newR (c_Walk T) (na_Walk_rates T) (by decide +kernel) (by rfl) h (by rw [hv]; rfl) (by omega) k
theorem f_Walk_begun {K : PySem.W.Frag} {mg : Str → Option Value} (T : Txt K mg) {H : Hp} {a dx : Addr} {vs : List V} {v : V} {Q : VK} (h : H a = some (.ins (He.ga K "Walk") dx (kWalk.zip vs))) (hv : vs[10]? = some v) (q : Q v H) : FldR K "begun" (.ref a) H Q :=
  fldR (c_Walk T) (na_Walk_begun T) kWalk_nd (i := 10) (by rfl) h hv q
theorem s_Walk_begun {K : PySem.W.Frag} {mg : Str → Option Value} (T : Txt K mg) {H : Hp} {a dx : Addr} {vs : List V} {v : V} {q : Hp → Prop} (h : H a = some (.ins (He.ga K "Walk") dx (kWalk.zip vs))) (hv : vs.length = 15) (k : q (upd H a (.ins (He.ga K "Walk") dx (kWalk.zip (vs.set 10 v))))) : SetR K "begun" (.ref a) v H q :=
  setR (c_Walk T) (na_Walk_begun T) kWalk_nd (i := 10) (by rfl) h (by omega) (by omega) k
theorem n_Walk_begun {K : PySem.W.Frag} {mg : Str → Option Value} (T : Txt K mg) {H : Hp} {a dx : Addr} {vs : List V} {v : V} {q : Hp → Prop} (h : H a = some (.ins (He.ga K "Walk") dx ((kWalk.take 10).zip vs))) (hv : vs.length = 10) (k : q (upd H a (.ins (He.ga K "Walk") dx ((kWalk.take 11).zip (vs ++ [v]))))) : SetR K "begun" (.ref a) v H q :=
  newR (c_Walk T) (na_Walk_begun T) (by decide +kernel) (by rfl) h (by rw [hv]; rfl) (by omega) k
theorem f_Walk_whole {K : PySem.W.Frag} {mg : Str → Option Value} (T : Txt K mg) {H : Hp} {a dx : Addr} {vs : List V} {v : V} {Q : VK} (h : H a = some (.ins (He.ga K "Walk") dx (kWalk.zip vs))) (hv : vs[11]? = some v) (q : Q v H) : FldR K "whole" (.ref a) H Q :=
  fldR (c_Walk T) (na_Walk_whole T) kWalk_nd (i := 11) (by rfl) h hv q
theorem s_Walk_whole {K : PySem.W.Frag} {mg : Str → Option Value} (T : Txt K mg) {H : Hp} {a dx : Addr} {vs : List V} {v : V} {q : Hp → Prop} (h : H a = some (.ins (He.ga K "Walk") dx (kWalk.zip vs))) (hv : vs.length = 15) (k : q (upd H a (.ins (He.ga K "Walk") dx (kWalk.zip (vs.set 11 v))))) : SetR K "whole" (.ref a) v H q :=
  setR (c_Walk T) (na_Walk_whole T) kWalk_nd (i := 11) (by rfl) h (by omega) (by omega) k
theorem n_Walk_whole {K : PySem.W.Frag} {mg : Str → Option Value} (T : Txt K mg) {H : Hp} {a dx : Addr} {vs : List V} {v : V} {q : Hp → Prop} (h : H a = some (.ins (He.ga K "Walk") dx ((kWalk.take 11).zip vs))) (hv : vs.length = 11) (k : q (upd H a (.ins (He.ga K "Walk") dx ((kWalk.take 12).zip (vs ++ [v]))))) : SetR K "whole" (.ref a) v H q :=
  newR (c_Walk T) (na_Walk_whole T) (by decide +kernel) (by rfl) h (by rw [hv]; rfl) (by omega) k
theorem f_Walk_plays {K : PySem.W.Frag} {mg : Str → Option Value} (T : Txt K mg) {H : Hp} {a dx : Addr} {vs : List V} {v : V} {Q : VK} (h : H a = some (.ins (He.ga K "Walk") dx (kWalk.zip vs))) (hv : vs[12]? = some v) (q : Q v H) : FldR K "plays" (.ref a) H Q :=
  fldR (c_Walk T) (na_Walk_plays T) kWalk_nd (i := 12) (by rfl) h hv q
theorem s_Walk_plays {K : PySem.W.Frag} {mg : Str → Option Value} (T : Txt K mg) {H : Hp} {a dx : Addr} {vs : List V} {v : V} {q : Hp → Prop} (h : H a = some (.ins (He.ga K "Walk") dx (kWalk.zip vs))) (hv : vs.length = 15) (k : q (upd H a (.ins (He.ga K "Walk") dx (kWalk.zip (vs.set 12 v))))) : SetR K "plays" (.ref a) v H q :=
  setR (c_Walk T) (na_Walk_plays T) kWalk_nd (i := 12) (by rfl) h (by omega) (by omega) k
theorem n_Walk_plays {K : PySem.W.Frag} {mg : Str → Option Value} (T : Txt K mg) {H : Hp} {a dx : Addr} {vs : List V} {v : V} {q : Hp → Prop} (h : H a = some (.ins (He.ga K "Walk") dx ((kWalk.take 12).zip vs))) (hv : vs.length = 12) (k : q (upd H a (.ins (He.ga K "Walk") dx ((kWalk.take 13).zip (vs ++ [v]))))) : SetR K "plays" (.ref a) v H q :=
  newR (c_Walk T) (na_Walk_plays T) (by decide +kernel) (by rfl) h (by rw [hv]; rfl) (by omega) k
theorem f_Walk_stalls {K : PySem.W.Frag} {mg : Str → Option Value} (T : Txt K mg) {H : Hp} {a dx : Addr} {vs : List V} {v : V} {Q : VK} (h : H a = some (.ins (He.ga K "Walk") dx (kWalk.zip vs))) (hv : vs[13]? = some v) (q : Q v H) : FldR K "stalls" (.ref a) H Q :=
  fldR (c_Walk T) (na_Walk_stalls T) kWalk_nd (i := 13) (by rfl) h hv q
theorem s_Walk_stalls {K : PySem.W.Frag} {mg : Str → Option Value} (T : Txt K mg) {H : Hp} {a dx : Addr} {vs : List V} {v : V} {q : Hp → Prop} (h : H a = some (.ins (He.ga K "Walk") dx (kWalk.zip vs))) (hv : vs.length = 15) (k : q (upd H a (.ins (He.ga K "Walk") dx (kWalk.zip (vs.set 13 v))))) : SetR K "stalls" (.ref a) v H q :=
  setR (c_Walk T) (na_Walk_stalls T) kWalk_nd (i := 13) (by rfl) h (by omega) (by omega) k
theorem n_Walk_stalls {K : PySem.W.Frag} {mg : Str → Option Value} (T : Txt K mg) {H : Hp} {a dx : Addr} {vs : List V} {v : V} {q : Hp → Prop} (h : H a = some (.ins (He.ga K "Walk") dx ((kWalk.take 13).zip vs))) (hv : vs.length = 13) (k : q (upd H a (.ins (He.ga K "Walk") dx ((kWalk.take 14).zip (vs ++ [v]))))) : SetR K "stalls" (.ref a) v H q :=
  newR (c_Walk T) (na_Walk_stalls T) (by decide +kernel) (by rfl) h (by rw [hv]; rfl) (by omega) k
theorem f_Walk_kept {K : PySem.W.Frag} {mg : Str → Option Value} (T : Txt K mg) {H : Hp} {a dx : Addr} {vs : List V} {v : V} {Q : VK} (h : H a = some (.ins (He.ga K "Walk") dx (kWalk.zip vs))) (hv : vs[14]? = some v) (q : Q v H) : FldR K "kept" (.ref a) H Q :=
  fldR (c_Walk T) (na_Walk_kept T) kWalk_nd (i := 14) (by rfl) h hv q
theorem s_Walk_kept {K : PySem.W.Frag} {mg : Str → Option Value} (T : Txt K mg) {H : Hp} {a dx : Addr} {vs : List V} {v : V} {q : Hp → Prop} (h : H a = some (.ins (He.ga K "Walk") dx (kWalk.zip vs))) (hv : vs.length = 15) (k : q (upd H a (.ins (He.ga K "Walk") dx (kWalk.zip (vs.set 14 v))))) : SetR K "kept" (.ref a) v H q :=
  setR (c_Walk T) (na_Walk_kept T) kWalk_nd (i := 14) (by rfl) h (by omega) (by omega) k
theorem n_Walk_kept {K : PySem.W.Frag} {mg : Str → Option Value} (T : Txt K mg) {H : Hp} {a dx : Addr} {vs : List V} {v : V} {q : Hp → Prop} (h : H a = some (.ins (He.ga K "Walk") dx ((kWalk.take 14).zip vs))) (hv : vs.length = 14) (k : q (upd H a (.ins (He.ga K "Walk") dx ((kWalk.take 15).zip (vs ++ [v]))))) : SetR K "kept" (.ref a) v H q :=
  newR (c_Walk T) (na_Walk_kept T) (by decide +kernel) (by rfl) h (by rw [hv]; rfl) (by omega) k
theorem f_Run_rates {K : PySem.W.Frag} {mg : Str → Option Value} (T : Txt K mg) {H : Hp} {a dx : Addr} {vs : List V} {v : V} {Q : VK} (h : H a = some (.ins (He.ga K "Run") dx (kRun.zip vs))) (hv : vs[0]? = some v) (q : Q v H) : FldR K "rates" (.ref a) H Q :=
  fldR (c_Run T) (na_Run_rates T) kRun_nd (i := 0) (by rfl) h hv q
theorem s_Run_rates {K : PySem.W.Frag} {mg : Str → Option Value} (T : Txt K mg) {H : Hp} {a dx : Addr} {vs : List V} {v : V} {q : Hp → Prop} (h : H a = some (.ins (He.ga K "Run") dx (kRun.zip vs))) (hv : vs.length = 7) (k : q (upd H a (.ins (He.ga K "Run") dx (kRun.zip (vs.set 0 v))))) : SetR K "rates" (.ref a) v H q :=
  setR (c_Run T) (na_Run_rates T) kRun_nd (i := 0) (by rfl) h (by omega) (by omega) k
theorem n_Run_rates {K : PySem.W.Frag} {mg : Str → Option Value} (T : Txt K mg) {H : Hp} {a dx : Addr} {vs : List V} {v : V} {q : Hp → Prop} (h : H a = some (.ins (He.ga K "Run") dx ((kRun.take 0).zip vs))) (hv : vs.length = 0) (k : q (upd H a (.ins (He.ga K "Run") dx ((kRun.take 1).zip (vs ++ [v]))))) : SetR K "rates" (.ref a) v H q :=
  newR (c_Run T) (na_Run_rates T) (by decide +kernel) (by rfl) h (by rw [hv]; rfl) (by omega) k
theorem f_Run_begun {K : PySem.W.Frag} {mg : Str → Option Value} (T : Txt K mg) {H : Hp} {a dx : Addr} {vs : List V} {v : V} {Q : VK} (h : H a = some (.ins (He.ga K "Run") dx (kRun.zip vs))) (hv : vs[1]? = some v) (q : Q v H) : FldR K "begun" (.ref a) H Q :=
  fldR (c_Run T) (na_Run_begun T) kRun_nd (i := 1) (by rfl) h hv q
theorem s_Run_begun {K : PySem.W.Frag} {mg : Str → Option Value} (T : Txt K mg) {H : Hp} {a dx : Addr} {vs : List V} {v : V} {q : Hp → Prop} (h : H a = some (.ins (He.ga K "Run") dx (kRun.zip vs))) (hv : vs.length = 7) (k : q (upd H a (.ins (He.ga K "Run") dx (kRun.zip (vs.set 1 v))))) : SetR K "begun" (.ref a) v H q :=
  setR (c_Run T) (na_Run_begun T) kRun_nd (i := 1) (by rfl) h (by omega) (by omega) k
theorem n_Run_begun {K : PySem.W.Frag} {mg : Str → Option Value} (T : Txt K mg) {H : Hp} {a dx : Addr} {vs : List V} {v : V} {q : Hp → Prop} (h : H a = some (.ins (He.ga K "Run") dx ((kRun.take 1).zip vs))) (hv : vs.length = 1) (k : q (upd H a (.ins (He.ga K "Run") dx ((kRun.take 2).zip (vs ++ [v]))))) : SetR K "begun" (.ref a) v H q :=
  newR (c_Run T) (na_Run_begun T) (by decide +kernel) (by rfl) h (by rw [hv]; rfl) (by omega) k
theorem f_Run_whole {K : PySem.W.Frag} {mg : Str → Option Value} (T : Txt K mg) {H : Hp} {a dx : Addr} {vs : List V} {v : V} {Q : VK} (h : H a = some (.ins (He.ga K "Run") dx (kRun.zip vs))) (hv : vs[2]? = some v) (q : Q v H) : FldR K "whole" (.ref a) H Q :=
  fldR (c_Run T) (na_Run_whole T) kRun_nd (i := 2) (by rfl) h hv q
theorem s_Run_whole {K : PySem.W.Frag} {mg : Str → Option Value} (T : Txt K mg) {H : Hp} {a dx : Addr} {vs : List V} {v : V} {q : Hp → Prop} (h : H a = some (.ins (He.ga K "Run") dx (kRun.zip vs))) (hv : vs.length = 7) (k : q (upd H a (.ins (He.ga K "Run") dx (kRun.zip (vs.set 2 v))))) : SetR K "whole" (.ref a) v H q :=
  setR (c_Run T) (na_Run_whole T) kRun_nd (i := 2) (by rfl) h (by omega) (by omega) k
theorem n_Run_whole {K : PySem.W.Frag} {mg : Str → Option Value} (T : Txt K mg) {H : Hp} {a dx : Addr} {vs : List V} {v : V} {q : Hp → Prop} (h : H a = some (.ins (He.ga K "Run") dx ((kRun.take 2).zip vs))) (hv : vs.length = 2) (k : q (upd H a (.ins (He.ga K "Run") dx ((kRun.take 3).zip (vs ++ [v]))))) : SetR K "whole" (.ref a) v H q :=
  newR (c_Run T) (na_Run_whole T) (by decide +kernel) (by rfl) h (by rw [hv]; rfl) (by omega) k
theorem f_Run_plays {K : PySem.W.Frag} {mg : Str → Option Value} (T : Txt K mg) {H : Hp} {a dx : Addr} {vs : List V} {v : V} {Q : VK} (h : H a = some (.ins (He.ga K "Run") dx (kRun.zip vs))) (hv : vs[3]? = some v) (q : Q v H) : FldR K "plays" (.ref a) H Q :=
  fldR (c_Run T) (na_Run_plays T) kRun_nd (i := 3) (by rfl) h hv q
theorem s_Run_plays {K : PySem.W.Frag} {mg : Str → Option Value} (T : Txt K mg) {H : Hp} {a dx : Addr} {vs : List V} {v : V} {q : Hp → Prop} (h : H a = some (.ins (He.ga K "Run") dx (kRun.zip vs))) (hv : vs.length = 7) (k : q (upd H a (.ins (He.ga K "Run") dx (kRun.zip (vs.set 3 v))))) : SetR K "plays" (.ref a) v H q :=
  setR (c_Run T) (na_Run_plays T) kRun_nd (i := 3) (by rfl) h (by omega) (by omega) k
theorem n_Run_plays {K : PySem.W.Frag} {mg : Str → Option Value} (T : Txt K mg) {H : Hp} {a dx : Addr} {vs : List V} {v : V} {q : Hp → Prop} (h : H a = some (.ins (He.ga K "Run") dx ((kRun.take 3).zip vs))) (hv : vs.length = 3) (k : q (upd H a (.ins (He.ga K "Run") dx ((kRun.take 4).zip (vs ++ [v]))))) : SetR K "plays" (.ref a) v H q :=
  newR (c_Run T) (na_Run_plays T) (by decide +kernel) (by rfl) h (by rw [hv]; rfl) (by omega) k
theorem f_Run_stalls {K : PySem.W.Frag} {mg : Str → Option Value} (T : Txt K mg) {H : Hp} {a dx : Addr} {vs : List V} {v : V} {Q : VK} (h : H a = some (.ins (He.ga K "Run") dx (kRun.zip vs))) (hv : vs[4]? = some v) (q : Q v H) : FldR K "stalls" (.ref a) H Q :=
  fldR (c_Run T) (na_Run_stalls T) kRun_nd (i := 4) (by rfl) h hv q
theorem s_Run_stalls {K : PySem.W.Frag} {mg : Str → Option Value} (T : Txt K mg) {H : Hp} {a dx : Addr} {vs : List V} {v : V} {q : Hp → Prop} (h : H a = some (.ins (He.ga K "Run") dx (kRun.zip vs))) (hv : vs.length = 7) (k : q (upd H a (.ins (He.ga K "Run") dx (kRun.zip (vs.set 4 v))))) : SetR K "stalls" (.ref a) v H q :=
  setR (c_Run T) (na_Run_stalls T) kRun_nd (i := 4) (by rfl) h (by omega) (by omega) k
theorem n_Run_stalls {K : PySem.W.Frag} {mg : Str → Option Value} (T : Txt K mg) {H : Hp} {a dx : Addr} {vs : List V} {v : V} {q : Hp → Prop} (h : H a = some (.ins (He.ga K "Run") dx ((kRun.take 4).zip vs))) (hv : vs.length = 4) (k : q (upd H a (.ins (He.ga K "Run") dx ((kRun.take 5).zip (vs ++ [v]))))) : SetR K "stalls" (.ref a) v H q :=
  newR (c_Run T) (na_Run_stalls T) (by decide +kernel) (by rfl) h (by rw [hv]; rfl) (by omega) k
theorem f_Run_ended {K : PySem.W.Frag} {mg : Str → Option Value} (T : Txt K mg) {H : Hp} {a dx : Addr} {vs : List V} {v : V} {Q : VK} (h : H a = some (.ins (He.ga K "Run") dx (kRun.zip vs))) (hv : vs[5]? = some v) (q : Q v H) : FldR K "ended" (.ref a) H Q :=
  fldR (c_Run T) (na_Run_ended T) kRun_nd (i := 5) (by rfl) h hv q
theorem s_Run_ended {K : PySem.W.Frag} {mg : Str → Option Value} (T : Txt K mg) {H : Hp} {a dx : Addr} {vs : List V} {v : V} {q : Hp → Prop} (h : H a = some (.ins (He.ga K "Run") dx (kRun.zip vs))) (hv : vs.length = 7) (k : q (upd H a (.ins (He.ga K "Run") dx (kRun.zip (vs.set 5 v))))) : SetR K "ended" (.ref a) v H q :=
  setR (c_Run T) (na_Run_ended T) kRun_nd (i := 5) (by rfl) h (by omega) (by omega) k
theorem n_Run_ended {K : PySem.W.Frag} {mg : Str → Option Value} (T : Txt K mg) {H : Hp} {a dx : Addr} {vs : List V} {v : V} {q : Hp → Prop} (h : H a = some (.ins (He.ga K "Run") dx ((kRun.take 5).zip vs))) (hv : vs.length = 5) (k : q (upd H a (.ins (He.ga K "Run") dx ((kRun.take 6).zip (vs ++ [v]))))) : SetR K "ended" (.ref a) v H q :=
  newR (c_Run T) (na_Run_ended T) (by decide +kernel) (by rfl) h (by rw [hv]; rfl) (by omega) k
theorem f_Run_kept {K : PySem.W.Frag} {mg : Str → Option Value} (T : Txt K mg) {H : Hp} {a dx : Addr} {vs : List V} {v : V} {Q : VK} (h : H a = some (.ins (He.ga K "Run") dx (kRun.zip vs))) (hv : vs[6]? = some v) (q : Q v H) : FldR K "kept" (.ref a) H Q :=
  fldR (c_Run T) (na_Run_kept T) kRun_nd (i := 6) (by rfl) h hv q
theorem s_Run_kept {K : PySem.W.Frag} {mg : Str → Option Value} (T : Txt K mg) {H : Hp} {a dx : Addr} {vs : List V} {v : V} {q : Hp → Prop} (h : H a = some (.ins (He.ga K "Run") dx (kRun.zip vs))) (hv : vs.length = 7) (k : q (upd H a (.ins (He.ga K "Run") dx (kRun.zip (vs.set 6 v))))) : SetR K "kept" (.ref a) v H q :=
  setR (c_Run T) (na_Run_kept T) kRun_nd (i := 6) (by rfl) h (by omega) (by omega) k
theorem n_Run_kept {K : PySem.W.Frag} {mg : Str → Option Value} (T : Txt K mg) {H : Hp} {a dx : Addr} {vs : List V} {v : V} {q : Hp → Prop} (h : H a = some (.ins (He.ga K "Run") dx ((kRun.take 6).zip vs))) (hv : vs.length = 6) (k : q (upd H a (.ins (He.ga K "Run") dx ((kRun.take 7).zip (vs ++ [v]))))) : SetR K "kept" (.ref a) v H q :=
  newR (c_Run T) (na_Run_kept T) (by decide +kernel) (by rfl) h (by rw [hv]; rfl) (by omega) k
theorem f_Talk_lengths {K : PySem.W.Frag} {mg : Str → Option Value} (T : Txt K mg) {H : Hp} {a dx : Addr} {vs : List V} {v : V} {Q : VK} (h : H a = some (.ins (He.ga K "Talk") dx (kTalk.zip vs))) (hv : vs[0]? = some v) (q : Q v H) : FldR K "lengths" (.ref a) H Q :=
  fldR (c_Talk T) (na_Talk_lengths T) kTalk_nd (i := 0) (by rfl) h hv q
theorem s_Talk_lengths {K : PySem.W.Frag} {mg : Str → Option Value} (T : Txt K mg) {H : Hp} {a dx : Addr} {vs : List V} {v : V} {q : Hp → Prop} (h : H a = some (.ins (He.ga K "Talk") dx (kTalk.zip vs))) (hv : vs.length = 2) (k : q (upd H a (.ins (He.ga K "Talk") dx (kTalk.zip (vs.set 0 v))))) : SetR K "lengths" (.ref a) v H q :=
  setR (c_Talk T) (na_Talk_lengths T) kTalk_nd (i := 0) (by rfl) h (by omega) (by omega) k
theorem n_Talk_lengths {K : PySem.W.Frag} {mg : Str → Option Value} (T : Txt K mg) {H : Hp} {a dx : Addr} {vs : List V} {v : V} {q : Hp → Prop} (h : H a = some (.ins (He.ga K "Talk") dx ((kTalk.take 0).zip vs))) (hv : vs.length = 0) (k : q (upd H a (.ins (He.ga K "Talk") dx ((kTalk.take 1).zip (vs ++ [v]))))) : SetR K "lengths" (.ref a) v H q :=
  newR (c_Talk T) (na_Talk_lengths T) (by decide +kernel) (by rfl) h (by rw [hv]; rfl) (by omega) k
theorem f_Talk_sizes {K : PySem.W.Frag} {mg : Str → Option Value} (T : Txt K mg) {H : Hp} {a dx : Addr} {vs : List V} {v : V} {Q : VK} (h : H a = some (.ins (He.ga K "Talk") dx (kTalk.zip vs))) (hv : vs[1]? = some v) (q : Q v H) : FldR K "sizes" (.ref a) H Q :=
  fldR (c_Talk T) (na_Talk_sizes T) kTalk_nd (i := 1) (by rfl) h hv q
theorem s_Talk_sizes {K : PySem.W.Frag} {mg : Str → Option Value} (T : Txt K mg) {H : Hp} {a dx : Addr} {vs : List V} {v : V} {q : Hp → Prop} (h : H a = some (.ins (He.ga K "Talk") dx (kTalk.zip vs))) (hv : vs.length = 2) (k : q (upd H a (.ins (He.ga K "Talk") dx (kTalk.zip (vs.set 1 v))))) : SetR K "sizes" (.ref a) v H q :=
  setR (c_Talk T) (na_Talk_sizes T) kTalk_nd (i := 1) (by rfl) h (by omega) (by omega) k
theorem n_Talk_sizes {K : PySem.W.Frag} {mg : Str → Option Value} (T : Txt K mg) {H : Hp} {a dx : Addr} {vs : List V} {v : V} {q : Hp → Prop} (h : H a = some (.ins (He.ga K "Talk") dx ((kTalk.take 1).zip vs))) (hv : vs.length = 1) (k : q (upd H a (.ins (He.ga K "Talk") dx ((kTalk.take 2).zip (vs ++ [v]))))) : SetR K "sizes" (.ref a) v H q :=
  newR (c_Talk T) (na_Talk_sizes T) (by decide +kernel) (by rfl) h (by rw [hv]; rfl) (by omega) k
end Rp
end
section
set_option Elab.async false
set_option linter.all false
set_option maxRecDepth 100000
set_option maxHeartbeats 4000000
namespace Rp
open PySem PySem.Spec PyProof.Rows L2
theorem bt_int : bootBuiltins "int" = some (.type "int") := by decide +kernel
theorem bt_bool : bootBuiltins "bool" = some (.type "bool") := by decide +kernel
theorem bt_tuple : bootBuiltins "tuple" = some (.type "tuple") := by decide +kernel
theorem bt_list : bootBuiltins "list" = some (.type "list") := by decide +kernel
theorem bt_range : bootBuiltins "range" = some (.type "range") := by decide +kernel
theorem bt_enumerate : bootBuiltins "enumerate" = some (.type "enumerate") := by decide +kernel
theorem bt_len : bootBuiltins "len" = some (.builtin "len") := by decide +kernel
theorem bt_sum : bootBuiltins "sum" = some (.builtin "sum") := by decide +kernel
theorem bt_isinstance : bootBuiltins "isinstance" = some (.builtin "isinstance") := by decide +kernel
theorem bt_max : bootBuiltins "max" = some (.builtin "max") := by decide +kernel
theorem bt_min : bootBuiltins "min" = some (.builtin "min") := by decide +kernel
theorem bt_repr : bootBuiltins "repr" = some (.builtin "repr") := by decide +kernel
section
variable {K : PySem.W.Frag} {mg : Str → Option Value} {σ : L2.St} {H : Hp} {D : Ends} {Q : VK} {QB : Bool → Hp → Prop}
theorem r_lengths {a : Addr} {t : Tk} (T : Txt K mg) (h : TalkAt K H a t) (q : ∀ l, SqT K H l (t.ls.map V.int) → Q (.ref l) H) : FldR K "lengths" (.ref a) H Q := by
  obtain ⟨dx, l, z, rs, h1, h2, h3, h4⟩ := h.ex
  exact f_Talk_lengths T h1 rfl (q l h2)
theorem r_sizes {a : Addr} {t : Tk} (T : Txt K mg) (h : TalkAt K H a t) (q : ∀ z rs, SqT K H z (rs.map V.ref) → RowsAt K H rs t.zs → Q (.ref z) H) : FldR K "sizes" (.ref a) H Q := by
  obtain ⟨dx, l, z, rs, h1, h2, h3, h4⟩ := h.ex
  exact f_Talk_sizes T h1 rfl (q z rs h3 h4)
theorem c_sd3 {a : Addr} {s : Sd} {t : TGs} {q : L2.St → Hp → Prop} (h : SqT K H a (sdV s)) (k : ∀ p H1, Go [] H H1 → H p = none → H1 p = some (.lst [.int s.k, .int s.p, .int s.o]) → t [.int (s.n : Int), .int s.c, .int s.g, .ref p] σ H1 q) : gStar K 3 t (.ref a) σ H q :=
  c_starG h (by show 3 ≤ 6; decide) (by show 6 ≤ 1000; decide) k
theorem c_sd4 {a : Addr} {s : Sd} {t : TGs} {q : L2.St → Hp → Prop} (h : SqT K H a (sdV s)) (k : ∀ p H1, Go [] H H1 → H p = none → H1 p = some (.lst [.int s.p, .int s.o]) → t [.int (s.n : Int), .int s.c, .int s.g, .int s.k, .ref p] σ H1 q) : gStar K 4 t (.ref a) σ H q :=
  c_starG h (by show 4 ≤ 6; decide) (by show 6 ≤ 1000; decide) k
theorem c_sd2 {a : Addr} {s : Sd} {t : TGs} {q : L2.St → Hp → Prop} (h : SqT K H a (sdV s)) (k : ∀ p H1, Go [] H H1 → H p = none → H1 p = some (.lst [.int s.g, .int s.k, .int s.p, .int s.o]) → t [.int (s.n : Int), .int s.c, .ref p] σ H1 q) : gStar K 2 t (.ref a) σ H q :=
  c_starG h (by show 2 ≤ 6; decide) (by show 6 ≤ 1000; decide) k
theorem c_sd6 {a : Addr} {s : Sd} {t : TGs} {q : L2.St → Hp → Prop} (h : SqT K H a (sdV s)) (k : t [.int (s.n : Int), .int s.c, .int s.g, .int s.k, .int s.p, .int s.o] σ H q) : gTup K 6 t (.ref a) σ H q := c_tupG h rfl k
/-- the places of a stand -/
theorem c_sdix {a : Addr} {s : Sd} {i : Int} {v : V} (h : SqT K H a (sdV s)) (e : atI (sdV s) i = some v) (q : Q v H) : rIxT K (.ref a) (.int i) H Q := c_ixT h e q
theorem atI_map {l : List Int} {i : Nat} (h : i < l.length) : atI (l.map V.int) (i : Int) = some (.int (l.getD i 0)) := atI_nat (by rw [List.getElem?_map, List.getElem?_eq_getElem h, List.getD_eq_getElem?_getD, List.getElem?_eq_getElem h]; rfl)
theorem atI_ref {l : List Addr} {i : Nat} {r : Addr} (h : l[i]? = some r) : atI (l.map V.ref) (i : Int) = some (.ref r) := atI_nat (by rw [List.getElem?_map, h]; rfl)
theorem isi_int {z : Int} (q : Q (.bl true) H) : rIsi K [.int z, .ty "int"] H Q := ⟨_, _, _, _, true, rfl, .ty _, .base (.int z), rfl, q⟩
theorem isi_bool {z : Int} (q : Q (.bl false) H) : rIsi K [.int z, .ty "bool"] H Q := ⟨_, _, _, _, false, rfl, .ty _, .base (.int z), kit_ty (by kernel_rfl), q⟩
theorem isi_tup {a : Addr} {xs : List V} (h : H a = some (.tup xs)) (q : Q (.bl true) H) : rIsi K [.ref a, .ty "tuple"] H Q := ⟨_, _, _, _, true, rfl, .ty _, .base (.tup h), rfl, q⟩
def NT (xs : List V) (H : Hp) (Q : VK) : Prop := xs.length ≤ sizeLine ∧ ∀ p, H p = none → Q (.ref p) (upd H p (.tup xs))
def NL (xs : List V) (H : Hp) (Q : VK) : Prop := xs.length ≤ sizeLine ∧ ∀ p, H p = none → Q (.ref p) (upd H p (.lst xs))
theorem c_tupN {t : TA} (h : t σ H fun xs H1 => NT xs H1 Q) : tTup t σ H Q := h
theorem c_lstN {t : TA} (h : t σ H fun xs H1 => NL xs H1 Q) : tLst t σ H Q := h
theorem newTup {xs : List V} (k : ∀ p H2, Go [] H H2 → H p = none → H2 p = some (.tup xs) → Q (.ref p) H2) (hl : xs.length.ble sizeLine = true := by rfl) : NT xs H Q :=
  ⟨Nat.le_of_ble_eq_true hl, fun p hp => k p _ (Go.new hp) hp upd_same⟩
theorem newLst {xs : List V} (k : ∀ p H2, Go [] H H2 → H p = none → H2 p = some (.lst xs) → Q (.ref p) H2) (hl : xs.length.ble sizeLine = true := by rfl) : NL xs H Q :=
  ⟨Nat.le_of_ble_eq_true hl, fun p hp => k p _ (Go.new hp) hp upd_same⟩
theorem sqT {a : Addr} {xs : List V} (h : H a = some (.tup xs)) : SqT K H a xs := .inl (.inl h)
theorem sqL {a : Addr} {xs : List V} (h : H a = some (.lst xs)) : SqL K H a xs := .inl (.inl h)
theorem c_catA {a b : Addr} {xs ys : List V} (ha : SqT K H a xs) (hb : SqT K H b ys) (hl : xs.length + ys.length ≤ sizeLine) (q : ∀ p H', Go [] H H' → SqT K H' p (xs ++ ys) → Q (.ref p) H') : rCatA K (.ref a) (.ref b) H Q := by
  refine ⟨a, b, xs, ys, rfl, rfl, ha, hb, hl, fun e => ?_, fun _ e => ?_, fun _ _ p hp => ?_⟩
  · subst e
    exact q b H Go.refl hb
  · subst e
    exact q a H Go.refl (by rw [List.append_nil]; exact ha)
  · exact q p _ (Go.new hp) (sqT upd_same)
theorem c_slA {a : Addr} {xs : List V} {lo hi : Option Int} (ha : SqT K H a xs) (q : ∀ p H', Go [] H H' → SqT K H' p (cutV xs lo hi) → Q (.ref p) H') (hc : HT.sIx xs.length 0 lo = 0 ∧ HT.sIx xs.length xs.length hi = xs.length → cutV xs lo hi = xs) : rSlA K (.ref a) lo hi H Q := by
  refine ⟨a, xs, rfl, ha, fun z => ?_, fun _ p hp => ?_⟩
  · exact q a H Go.refl (by rw [hc z]; exact ha)
  · exact q p _ (Go.new hp) (sqT upd_same)
theorem c_app {l : Addr} {xs : List V} {y : V} (h : H l = some (.lst xs)) (hl : xs.length < sizeLine) (q : Q .non (upd H l (.lst (xs ++ [y])))) : rAppend (.ref l) [y] H Q := ⟨l, xs, y, rfl, rfl, h, hl, q⟩
/-- {i: v, j: w}[i] .. -/
theorem c_dget2 {t1 t2 t3 t4 ty : TE} {i j k : Int} {u v r : V} (h1 : ∀ H q, q (.int i) H → t1 σ H q) (h2 : ∀ H q, q u H → t2 σ H q) (h3 : ∀ H q, q (.int j) H → t3 σ H q) (h4 : ∀ H q, q v H → t4 σ H q) (hij : i ≠ j) (h5 : ∀ H q, q (.int k) H → ty σ H q)
    (e : (k = i ∧ r = u) ∨ (k = j ∧ r = v)) (q : ∀ H', Go [] H H' → Q r H') : tDGet (tDisp [(t1, t2), (t3, t4)]) ty σ H Q := by
  intro p hp
  refine h1 _ _ (h2 _ _ (h3 _ _ (h4 _ _ ⟨upd_same, [(.inl i, u), (.inl j, v)], rfl, Nat.le_of_ble_eq_true rfl, h5 _ _ ⟨p, r, rfl, .inl ⟨_, .inl k, .inl upd_same, rfl, ?_⟩, ?_⟩⟩)))
  · have hji : ¬ (Sum.inl i : Key) = Sum.inl j := fun z => hij (Sum.inl.inj z)
    have em : mergeK [] [((.inl i : Key), u), (.inl j, v)] = [(.inl i, u), (.inl j, v)] := by simp [mergeK, putK, hji]
    rw [em]
    rcases e with ⟨e1, e2⟩ | ⟨e1, e2⟩
    · subst e1 e2
      exact (valV_pos (p := ((.inl k : Key), r)) rfl).symm
    · subst e1 e2
      have : ¬ (Sum.inl i : Key) = Sum.inl k := hji
      simp [valV, List.find?_cons, this]
  · refine q _ ?_
    have g1 : Go [] H (upd H p (.dK [])) := Go.new hp
    exact ⟨fun b o eb _ => by rw [upd_ne (ne_of_none eb hp), upd_ne (ne_of_none eb hp)]; exact eb, fun b o eb _ => by rw [upd_ne (ne_of_none eb hp), upd_ne (ne_of_none eb hp)]; exact eb⟩
end
/-- a test with one answer, several ways to it -/
theorem c_ifB {σ : L2.St} {H : Hp} {D : Ends} {c : TT} {t u : TS} (b : Bool) (hc : ∀ QB : Bool → Hp → Prop, (∀ H1, Go [] H H1 → QB b H1) → c σ H QB) (k : ∀ H1, Go [] H H1 → if b = true then t D σ H1 else u D σ H1) : tIfS c t u D σ H := hc _ k
theorem c_augI {σ : L2.St} {H : Hp} {D : Ends} {i : Nat} {te : TE} {x y : Int} {f : Int → Int → Int} (e : σ[i]? = some (some (.int x))) (h : ∀ q : VK, q (.int y) H → te σ H q) (k : D.nx (σ.set i (some (.int (f x y)))) H) : tAug i te (ipI f) D σ H :=
  ⟨_, e, h _ ⟨x, y, rfl, rfl, k⟩⟩
theorem c_itT {A B : Prop} (h : A) : if true = true then A else B := by rw [if_pos rfl]; exact h
theorem c_itN {A B : Prop} (h : A) : if (!false) = true then A else B := c_itT h
theorem c_itF {A B : Prop} (h : B) : if false = true then A else B := by rw [if_neg Bool.false_ne_true]; exact h
theorem c_chain {σ : L2.St} {H : Hp} {Q : VK} {r r' : R2} {ta tb tc : TE} (h : ta σ H fun x H1 => tb σ H1 fun y H2 => r x y H2 fun z H3 => ∃ k, z = .bl k ∧ (if k = true then tc σ H3 fun w' H4 => r' y w' H4 Q else Q (.bl false) H3)) : tChain r r' ta tb tc σ H Q := h
theorem r_meth_talk {K : PySem.W.Frag} {σ : L2.St} {H : Hp} {Q : VK} {a : Addr} {t : Tk} {m : Str} {sp : Sp} {dvs : List V} {E : XK} {tt : TA} (ht : TalkAt K H a t) (hn : kTalk.contains m = false) (k : tt σ H fun vs H2 => sp (.ref a :: (vs ++ dvs)) H2 Q E) : MethR (He.ga K "Talk") m sp dvs E tt σ (.ref a) H Q := by
  obtain ⟨dx, l, z, rs, h1, h2⟩ := ht.ex
  exact methR h1 hn k
def BmR (K : PySem.W.Frag) (T : String) (r : V → List V → Hp → VK → Prop) (t : TA) (σ : L2.St) (x : V) (H1 : Hp) (Q : VK) : Prop := tyV K T x H1 ∧ t σ H1 fun xs H2 => r x xs H2 Q
def Bm0R (K : PySem.W.Frag) (T : String) (r : V → List V → Hp → VK → Prop) (x : V) (H1 : Hp) (Q : VK) : Prop := tyV K T x H1 ∧ r x [] H1 Q
section
variable {K : PySem.W.Frag} {σ : L2.St} {H : Hp} {Q : VK} {D : Ends}
theorem c_bm {T : String} {r : V → List V → Hp → VK → Prop} {to : TE} {t : TA} (h : to σ H fun x H1 => BmR K T r t σ x H1 Q) : tBM K T r to t σ H Q := h
theorem c_bm0 {T : String} {r : V → List V → Hp → VK → Prop} {to : TE} (h : to σ H fun x H1 => Bm0R K T r x H1 Q) : tBM0 K T r to σ H Q := h
theorem bmL {r : V → List V → Hp → VK → Prop} {t : TA} {l : Addr} {xs : List V} (h : H l = some (.lst xs)) (k : t σ H fun vs H2 => r (.ref l) vs H2 Q) : BmR K "list" r t σ (.ref l) H Q := ⟨.inl ⟨rfl, xs, sqL h⟩, k⟩
theorem bm0L {r : V → List V → Hp → VK → Prop} {l : Addr} {xs : List V} (h : H l = some (.lst xs)) (k : r (.ref l) [] H Q) : Bm0R K "list" r (.ref l) H Q := ⟨.inl ⟨rfl, xs, sqL h⟩, k⟩
/-- a new instance: x with its dict; what stood is kept -/
def MkR (C : Addr) (sp : Sp) (E : XK) (vs : List V) (H : Hp) (Q : VK) : Prop := ∀ x dx, H x = none → H dx = none → dx ≠ x → sp (.ref x :: vs) (upd (upd H dx (.own x)) x (.ins C dx [])) (fun v H2 => v = .non ∧ Q (.ref x) H2) E
theorem c_make {C : Addr} {sp : Sp} {dvs : List V} {E : XK} {t : TA} (h : t σ H fun vs H1 => MkR C sp E (vs ++ dvs) H1 Q) : tMake C sp dvs E t σ H Q := h
def MkKR (C : Addr) (n m : Nat) (sp : Sp) (gV : List V → List V → List V) (E : XK) (vs zs : List V) (H : Hp) (Q : VK) : Prop := vs.length = n ∧ zs.length = m ∧ ∀ x dx, H x = none → H dx = none → dx ≠ x →
  sp (gV (.ref x :: vs) zs) (upd (upd H dx (.own x)) x (.ins C dx [])) (fun v H3 => v = .non ∧ Q (.ref x) H3) E
theorem c_makeK {C : Addr} {n m : Nat} {sp : Sp} {gV : List V → List V → List V} {E : XK} {t tk : TA} (h : t σ H fun vs H1 => tk σ H1 fun zs H2 => MkKR C n m sp gV E vs zs H2 Q) : tMakeK C n m sp gV E t tk σ H Q := h
theorem go_made {C x dx : Addr} (hx : H x = none) (hd : H dx = none) (hne : dx ≠ x) : Go [] H (upd (upd H dx (.own x)) x (.ins C dx [])) :=
  ⟨fun b o e _ => by rw [upd_ne (ne_of_none e hx), upd_ne (ne_of_none e hd)]; exact e, fun b o e _ => by rw [upd_ne (ne_of_none e hx), upd_ne (ne_of_none e hd)]; exact e⟩
/-- the new heap behind an __init__ that wrote the new instance alone -/
theorem go_init {C x dx : Addr} {H' : Hp} (hx : H x = none) (hd : H dx = none) (hne : dx ≠ x) (g : Go [x] (upd (upd H dx (.own x)) x (.ins C dx [])) H') : Go [] H H' :=
  (go_made (C := C) hx hd hne).trans g fun a z => by
    rw [List.mem_singleton.mp z]
    exact .inr hx
theorem c_asg2 {te : TE} {g1 g2 : TG} (h : te σ H fun x H1 => g1 x σ H1 fun σ1 H2 => g2 x σ1 H2 D.nx) : tAsg2 te g1 g2 D σ H := h
theorem c_asg3 {te : TE} {g1 g2 g3 : TG} (h : te σ H fun x H1 => g1 x σ H1 fun σ1 H2 => g2 x σ1 H2 fun σ2 H3 => g3 x σ2 H3 D.nx) : tAsg3 te g1 g2 g3 D σ H := h
theorem c_retN {h : D.rt .non H} : tRetN D σ H := h
end
/-- tuple(x): of a list a new one, of a tuple itself -/
def rTupOf (K : PySem.W.Frag) : List V → Hp → VK → Prop := fun xs H Q => ∃ p ys, xs = [.ref p] ∧ ((SqL K H p ys ∧ ∀ l, H l = none → Q (.ref l) (upd H l (.tup ys))) ∨ (SqT K H p ys ∧ Q (.ref p) H))
theorem call_tupR {X : Cx} : CallR X (.type "tuple") (rTupOf X.K) := call_tuple_of
theorem tupL {K : PySem.W.Frag} {H : Hp} {Q : VK} {p : Addr} {ys : List V} (h : H p = some (.lst ys)) (k : ∀ l H', Go [] H H' → H l = none → H' l = some (.tup ys) → Q (.ref l) H') : rTupOf K [.ref p] H Q :=
  ⟨p, ys, rfl, .inl ⟨sqL h, fun l hl => k l _ (Go.new hl) hl upd_same⟩⟩
def rMin2 : List V → Hp → VK → Prop := fun xs H Q => ∃ i j, xs = [.int i, .int j] ∧ Q (.int (if j < i then j else i)) H
theorem call_minR {X : Cx} (hc : X.calm = true) : CallR X (.builtin "min") rMin2 := call_min2 hc
def rLenQ (K : PySem.W.Frag) : List V → Hp → VK → Prop := fun xs H Q => ∃ p ys, xs = [.ref p] ∧ (SqL K H p ys ∨ SqT K H p ys) ∧ Q (.int ys.length) H
theorem call_lenR {X : Cx} : CallR X (.builtin "len") (rLenQ X.K) := call_len_seq
theorem c_sl {σ : L2.St} {H : Hp} {Q : VK} {r : V → Option Int → Option Int → Hp → VK → Prop} {te : TE} {tl th : TO} (h : te σ H fun x H1 => tl σ H1 fun l H2 => th σ H2 fun u H3 => r x l u H3 Q) : tSl r te tl th σ H Q := h
theorem c_noPart {σ : L2.St} {H : Hp} {q : Option Int → Hp → Prop} (h : q none H) : tNoPart σ H q := h
theorem c_part {σ : L2.St} {H : Hp} {te : TE} {q : Option Int → Hp → Prop} (h : te σ H fun x H1 => ∃ i, x = .int i ∧ q (some i) H1) : tPart te σ H q := h
theorem c_itNT {A B : Prop} (h : B) : if (!true) = true then A else B := c_itF h
/-- what stands between two statements -/
theorem c_seqC {σ : L2.St} {H : Hp} {D : Ends} {t u : TS} (J : L2.St → Hp → Prop) (k : ∀ σ' H', J σ' H' → u D σ' H') (h : ∀ N : L2.St → Hp → Prop, (∀ σ' H', J σ' H' → N σ' H') → t { D with nx := N } σ H) : tSeq t u D σ H := h _ k
/-! ### len(range(e)) -/
def tLenRg (te : L2.St → Hp → (Int → Int → Hp → Prop) → Prop) : TE := fun σ H Q => te σ H fun a b H1 => RgOk a b ∧ Q (.int ((b - a).toNat : Nat)) H1
theorem c_lenRg {σ : L2.St} {H : Hp} {Q : VK} {t : TE} (h : t σ H fun x H1 => ∃ n, x = .int n ∧ RgOk 0 n ∧ Q (.int ((n - 0).toNat : Nat)) H1) : tLenRg (tRg1 t) σ H Q := h
theorem pe_lenRg {X : Cx} {e : Expr} {te : L2.St → Hp → (Int → Int → Hp → Prop) → Prop} {p pos : Pos} (hg : Gl X "len") (hm : X.mg "len" = none) (he : PRg X e te) (na : starEach [e] X.env = (false, eval e X.env) :: starEach [] X.env := by rfl) : PE X (.Call (.Name "len" p) [e] [] pos) (tLenRg te) := by
  refine ⟨fun pins s σ H Q I h => ?_⟩
  refine Call_ (ld_blt I hg hm bt_len (PyProof.Rows.callWith_builtin1 (args_cons (thn (he pins s σ H _ I h) fun x s1 ⟨r, a, b, t, u, v, H1, ex, hr, I1, ok, q⟩ => args_nil ?_) na) na))
  subst ex
  obtain ⟨b1, b2, b3, b4, b5⟩ := ok
  exact call_len_range (n := (b - a).toNat) hr (rangeSize_nat a b) (by omega) ⟨.int _, H1, I1.tok _, ⟨_, rfl⟩, q⟩
theorem cr_lenI_H {X : Cx} {k : Nat} {f C : Addr} {ps : List Str} {sp : Sp} (G : Has X.prog X.w X.K X.mg X.base k f ps [] sp) (m : Meth X.K C "__len__" f) (hr : Room (k + 1) X.A) : CallR X (.builtin "len") (rLenI X.K C sp) := by
  obtain ⟨⟨fd, ds, F, b, v⟩, kp⟩ := G
  cases v
  exact cr_lenI hr m.at_ m.fn F b
/-- a def called with keywords -/
theorem hasN_of {P : Program} {w : World} {K : PySem.W.Frag} {mg : Str → Option Value} {base : Heap} {x qual : Str} {params : Arguments} {body : List Stmt} {scope : Scope} {kws : List (Str × V)} {f : Addr} {N ps : List Str} {k : Nat} {sp : Sp}
    (n : Nat) (ks : List Str) (ms : List (Str × V)) (g : {α : Type} → List α → List α → List α → List α)
    (F : ∃ fd, FunD K x qual params body scope [] kws f fd) (S : FnScope N ps scope) (hk : kws ≠ []) (hms : ∀ q ∈ ms, q ∈ kws)
    (hrel : ∀ {vs mz zs : List V} {us mv ws : List Value}, Vals vs us → Vals mz mv → Vals zs ws → Vals (g vs mz zs) (g us mv ws))
    (h : ∀ (D : Addr) (doc pm : Value) (an : Option Addr) (cdv ct : Value) (us mv ws : List Value), us.length = n → mv.length = ms.length → ws.length = ks.length →
      KwChain D ((ms.map (·.1)).zip mv) (bindArgs (PySem.W.fnOf x qual params body scope .none (.ref D) doc pm an cdv ct) ⟨us, ks.zip ws⟩) (ps.zip (g us mv ws)))
    (len : ∀ vs H Q E, sp vs H Q E → vs.length = ps.length)
    (hbody : ∀ (cdv : Value) (A : Around) (outer : List Env) (s : Shared) (H : Hp) (vs : List V) (Q : VK) (E : XK), Room k (A.deeper (envOfC qual scope s.heap.objs.size f cdv)) → sp vs H Q E →
      ∃ t, PSs (cxOf CX0 P w K mg base N qual scope f cdv A outer s H E).nox body t ∧ t { nx := fun _ H' => Q .non H', rt := Q } (start N vs) H) : HasN P w K mg base (k + 1) f ps n ks (fun vs zs => g vs (ms.map (·.2)) zs) sp := by
  obtain ⟨fd, F⟩ := F
  obtain ⟨mv, hb⟩ := F.kbinds0 n ks ms g hk hms hrel h
  refine ⟨⟨fd, _, F.ok S len fun cdv A outer s H vs Q E hr h => ?_, hb⟩, F.kp⟩
  obtain ⟨t, h1, h2⟩ := hbody cdv A outer s H vs Q E hr h
  exact ⟨t, PSs.nox h1, h2⟩
/-- .. all keywords left out -/
theorem hasB_of {P : Program} {w : World} {K : PySem.W.Frag} {mg : Str → Option Value} {base : Heap} {x qual : Str} {params : Arguments} {body : List Stmt} {scope : Scope} {kws : List (Str × V)} {f : Addr} {N ps : List Str} {k : Nat} {sp : Sp} (n : Nat)
    (F : ∃ fd, FunD K x qual params body scope [] kws f fd) (S : FnScope N ps scope) (hk : kws ≠ []) (hn : n + kws.length = ps.length)
    (h : ∀ (D : Addr) (doc pm : Value) (an : Option Addr) (cdv ct : Value) (us ks : List Value), us.length = n → ks.length = kws.length →
      KwChain D ((kws.map (·.1)).zip ks) (bindArgs (PySem.W.fnOf x qual params body scope .none (.ref D) doc pm an cdv ct) ⟨us, []⟩) (ps.zip (us ++ ks)))
    (len : ∀ vs H Q E, sp vs H Q E → vs.length = ps.length)
    (hbody : ∀ (cdv : Value) (A : Around) (outer : List Env) (s : Shared) (H : Hp) (vs : List V) (Q : VK) (E : XK), Room k (A.deeper (envOfC qual scope s.heap.objs.size f cdv)) → sp vs H Q E →
      ∃ t, PSs (cxOf CX0 P w K mg base N qual scope f cdv A outer s H E).nox body t ∧ t { nx := fun _ H' => Q .non H', rt := Q } (start N vs) H) : Has P w K mg base (k + 1) f ps (kws.map (·.2)) sp := by
  obtain ⟨fd, F⟩ := F
  obtain ⟨ds, r, hb⟩ := F.binds0 n hk hn h
  refine ⟨⟨fd, ds, F.ok S len fun cdv A outer s H vs Q E hr h => ?_, hb, r⟩, F.kp⟩
  obtain ⟨t, h1, h2⟩ := hbody cdv A outer s H vs Q E hr h
  exact ⟨t, PSs.nox h1, h2⟩
/-- a def that is called with a lambda -/
structure HasL (P : Program) (w : World) (K : PySem.W.Frag) (mg : Str → Option Value) (base : Heap) (k : Nat) (g : Addr) (ps : List Str) (kw : Str) (sp : Sp) : Prop where
  ex : ∃ fd : FuncData, FnOk P w K mg base CX0 k g fd ps sp ∧ ∀ (s : Shared) (u1 u2 u3 : Value), BindsTo s fd ⟨[u1, u2], [(kw, u3)]⟩ (ps.zip [u1, u2, u3])
theorem hasL_of {P : Program} {w : World} {K : PySem.W.Frag} {mg : Str → Option Value} {base : Heap} {x qual kw : Str} {params : Arguments} {body : List Stmt} {scope : Scope} {kws : List (Str × V)} {f : Addr} {N ps : List Str} {k : Nat} {sp : Sp}
    (F : ∃ fd, FunD K x qual params body scope [] kws f fd) (S : FnScope N ps scope)
    (h : ∀ (kV doc pm : Value) (an : Option Addr) (cdv ct u1 u2 u3 : Value), bindArgs (PySem.W.fnOf x qual params body scope .none kV doc pm an cdv ct) ⟨[u1, u2], [(kw, u3)]⟩ = pure (ps.zip [u1, u2, u3]))
    (len : ∀ vs H Q E, sp vs H Q E → vs.length = ps.length)
    (hbody : ∀ (cdv : Value) (A : Around) (outer : List Env) (s : Shared) (H : Hp) (vs : List V) (Q : VK) (E : XK), Room k (A.deeper (envOfC qual scope s.heap.objs.size f cdv)) → sp vs H Q E →
      ∃ t, PSs (cxOf CX0 P w K mg base N qual scope f cdv A outer s H E).nox body t ∧ t { nx := fun _ H' => Q .non H', rt := Q } (start N vs) H) : HasL P w K mg base (k + 1) f ps kw sp := by
  obtain ⟨fd, F⟩ := F
  refine ⟨fd, F.ok S len fun cdv A outer s H vs Q E hr h => ?_, ?_⟩
  · obtain ⟨t, h1, h2⟩ := hbody cdv A outer s H vs Q E hr h
    exact ⟨t, PSs.nox h1, h2⟩
  · obtain ⟨oc, od, dV, kV, doc, pm, an, cdv, ct, osl, rfl, lk, hcd, hD, hK⟩ := F.ex
    rcases hD with ⟨_, rfl⟩ | ⟨e, _⟩
    · exact fun s u1 u2 u3 => BindsTo.of_eq (h _ _ _ _ _ _ _ _ _)
    · exact absurd rfl e
end Rp
end
section
set_option Elab.async false
set_option linter.all false
set_option maxRecDepth 100000
set_option maxHeartbeats 4000000
namespace Rp
open PySem PySem.Spec PyProof.Rows L2
local macro_rules | `(tactic| walk_at "rd1") => `(tactic| with_reducible first
  | refine c_seq ?_ | refine c_asg ?_ | refine c_drop ?_ | refine c_ret ?_ | refine c_ifS ?_ | refine c_brk ?_ | refine c_name ?_
  | refine c_gcons ?_ | refine c_gnil ?_ | refine c_var (by with_unfolding_all rfl) ?_ | refine c_op ?_ | refine c_un ?_ | refine c_c ?_
  | refine c_I0 ?_ | refine c_U ?_ | refine c_ip ?_ | refine c_eqI ?_ | refine c_neI ?_ | refine c_test ?_ | refine c_tB ?_
  | refine c_not ?_ | refine c_and ?_ | refine c_or ?_ | refine c_andV ?_ | refine c_orV ?_ | refine c_notV ?_ | refine c_if ?_
  | refine c_cons ?_ | refine c_nil ?_ | refine c_tupN ?_ | refine c_lstN ?_ | refine c_CB ?_ | refine c_call ?_ | refine c_meth ?_ | refine c_fld ?_ | refine c_sfld ?_ | refine c_gfld ?_
  | refine c_aug (by with_unfolding_all rfl) ?_ | refine c_fldaug ?_ | refine c_sl ?_ | refine c_noPart ?_ | refine c_part ?_ | refine c_callN ?_ | refine c_bm ?_ | refine c_bm0 ?_ | refine c_make ?_ | refine c_makeK ?_ | refine c_asg2 ?_ | refine c_asg3 ?_ | refine c_itT ?_ | refine c_itN ?_ | refine c_itNT ?_ | refine c_itF ?_ | refine c_chain ?_ | refine c_next ?_ | refine ⟨_, (rfl : V.bl _ = V.bl _), ?_⟩ | refine ⟨_, (rfl : V.int _ = V.int _), ?_⟩)
local macro_rules | `(tactic| walk_at "rs1") => `(tactic| with_reducible first
  | refine c_seq ?_ | refine c_asg ?_ | refine c_drop ?_ | refine c_ret ?_ | refine c_brk ?_ | refine c_name ?_
  | refine c_gcons ?_ | refine c_gnil ?_ | refine c_var (by with_unfolding_all rfl) ?_ | refine c_op ?_ | refine c_un ?_ | refine c_c ?_
  | refine c_I0 ?_ | refine c_U ?_ | refine c_ip ?_ | refine c_eqI ?_ | refine c_neI ?_ | refine c_test ?_ | refine c_tB ?_
  | refine c_not ?_ | refine c_and ?_ | refine c_or ?_ | refine c_andV ?_ | refine c_orV ?_ | refine c_notV ?_ | refine c_if ?_
  | refine c_cons ?_ | refine c_nil ?_ | refine c_tupN ?_ | refine c_lstN ?_ | refine c_CB ?_ | refine c_call ?_ | refine c_meth ?_ | refine c_fld ?_ | refine c_sfld ?_ | refine c_gfld ?_
  | refine c_aug (by with_unfolding_all rfl) ?_ | refine c_fldaug ?_ | refine c_sl ?_ | refine c_noPart ?_ | refine c_part ?_ | refine c_callN ?_ | refine c_bm ?_ | refine c_bm0 ?_ | refine c_make ?_ | refine c_makeK ?_ | refine c_asg2 ?_ | refine c_asg3 ?_ | refine c_itT ?_ | refine c_itN ?_ | refine c_itNT ?_ | refine c_itF ?_ | refine c_chain ?_ | refine c_next ?_ | refine ⟨_, (rfl : V.bl _ = V.bl _), ?_⟩ | refine ⟨_, (rfl : V.int _ = V.int _), ?_⟩)
local macro_rules | `(tactic| walk_at "rd") => `(tactic| repeat walk_at "rd1")
local macro_rules | `(tactic| walk_at "rs") => `(tactic| repeat walk_at "rs1")

section
variable {P : Program} {w : World} {K : PySem.W.Frag} {mg : Str → Option Value} {base : Heap}
/-! ### talks -/
def sp_Talk_many_rates (K : PySem.W.Frag) : Sp := fun vs H Q E => ∃ a t R, vs = [.ref a] ∧ TalkAt K H a t ∧ TkOk t R ∧ ∀ H', Go [] H H' → Q (.int R) H'
theorem ok_Talk_many_rates (T : Txt K mg) : Has P w K mg base (0 + 1) (He.ma K (He.ga K "Talk") "many_rates") ["self"] [] (sp_Talk_many_rates K) := by
  refine has_of (fd_Talk_many_rates T) sc_Talk_many_rates (fun _ _ _ _ _ _ us hl => match us, hl with | [_], _ => rfl) (fun vs H Q E h => ?_) fun cdv A outer s H vs Q E hr h => ⟨_, (pss_cons (ps_asg (pe_fld (pv 0) rfl) (pg_star (i := 1) rfl (pgs_cons (pg_name (i := 1) sc_Talk_many_rates.nd rfl (Or.inl rfl)) (pgs_star (pg_name (i := 2) sc_Talk_many_rates.nd rfl (Or.inl rfl)) pgs_nil))))
      (pss_one (ps_ret (pe_callB call_lenR (by rfl) (b_len T) bt_len (pa_cons (pv 1) pa_nil))))), ?_⟩
  · obtain ⟨a, t, R, rfl, _⟩ := h
    rfl
  obtain ⟨a, t, R, rfl, ht, ok, hq⟩ := h
  walk_at "rd"
  refine r_sizes T ht fun z rs hz hr2 => ?_
  obtain ⟨r0, rs', rfl⟩ : ∃ r0 rs', rs = r0 :: rs' := by
    have hl0 : 0 < rs.length := by rw [hr2.1, ok.zl]; exact ok.l0
    cases rs with
    | nil => simp at hl0
    | cons r0 rs' => exact ⟨r0, rs', rfl⟩
  have hl1 : ((r0 :: rs').map V.ref).length ≤ 1000 := by
    rw [List.length_map, hr2.1, ok.zl]
    exact Nat.le_trans ok.l1 (by decide)
  have hl2 : 1 ≤ ((r0 :: rs').map V.ref).length := by
    rw [List.length_map, List.length_cons]
    exact Nat.le_add_left _ _
  refine c_starG hz hl2 hl1 fun p H1 g _ e => ?_
  have e1 : ((r0 :: rs').map V.ref).take 1 ++ [V.ref p] = [V.ref r0, V.ref p] := rfl
  rw [e1]
  walk_at "rd"
  obtain ⟨row, hz0⟩ : ∃ row, t.zs[0]? = some row := ⟨_, List.getElem?_eq_getElem (by rw [ok.zl]; exact ok.l0)⟩
  have hrow := hr2.2 0 r0 row rfl hz0
  refine ⟨r0, _, rfl, .inr (g.tup hrow), ?_⟩
  rw [List.length_map, ok.rl _ (List.mem_of_getElem? hz0)]
  exact hq _ g
def sp_Talk_len (K : PySem.W.Frag) : Sp := fun vs H Q E => ∃ a t R, vs = [.ref a] ∧ TalkAt K H a t ∧ TkOk t R ∧ ∀ H', Go [] H H' → Q (.int t.ls.sum) H'
theorem sum_ls {t : Tk} {R : Nat} (ok : TkOk t R) : 0 < t.ls.sum ∧ t.ls.sum ≤ 240 := by
  have h : ∀ l : List Int, (∀ x ∈ l, 1 ≤ x ∧ x ≤ 20) → (l.length : Int) ≤ l.sum ∧ l.sum ≤ 20 * l.length := by
    intro l
    induction l with
    | nil => intro _; simp
    | cons x l ih =>
      intro h
      have h1 := h x List.mem_cons_self
      have h2 := ih fun y hy => h y (List.mem_cons_of_mem _ hy)
      rw [List.sum_cons, List.length_cons]
      omega
  have h1 := h _ ok.ls
  have h2 := ok.l0
  have h3 := ok.l1
  omega
theorem ok_Talk_len (T : Txt K mg) : Has P w K mg base (0 + 1) (He.ma K (He.ga K "Talk") "__len__") ["self"] [] (sp_Talk_len K) := by
  refine has_of (fd_Talk_len T) sc_Talk_len (fun _ _ _ _ _ _ us hl => match us, hl with | [_], _ => rfl) (fun vs H Q E h => ?_) fun cdv A outer s H vs Q E hr h => ⟨_, (pss_one (ps_ret (pe_lenRg (by rfl) (b_len T) (prg_1 (by rfl) (b_range T) (pe_callB (cr_sumT rfl) (by rfl) (b_sum T) bt_sum (pa_cons (pe_fld (pv 0) rfl) pa_nil)))))), ?_⟩
  · obtain ⟨a, t, R, rfl, _⟩ := h
    rfl
  obtain ⟨a, t, R, rfl, ht, ok, hq⟩ := h
  walk_at "rd"
  refine c_lenRg ?_
  walk_at "rd"
  refine r_lengths T ht fun l hl => ?_
  walk_at "rd"
  refine ⟨l, _, rfl, hl, ?_⟩
  obtain ⟨h1, h2⟩ := sum_ls ok
  refine ⟨_, rfl, RgOk.of_le (by omega) (by omega) (by omega) (by omega), ?_⟩
  rw [Int.sub_zero, Int.toNat_of_nonneg (by omega)]
  exact hq _ Go.refl
def sp_look_room (K : PySem.W.Frag) : Sp := fun vs H Q E => ∃ a t most, vs = [.ref a, .int most] ∧ TalkAt K H a t ∧ (∀ l ∈ t.ls, l ≤ most) ∧ ∀ H', Go [] H H' → Q .non H'
theorem ok_look_room (T : Txt K mg) : Has P w K mg base (1 + 1) (He.ga K "look_room") ["talk", "most"] [] (sp_look_room K) := by
  refine has_of (fd_look_room T) sc_look_room (fun _ _ _ _ _ _ us hl => match us, hl with | [_, _], _ => rfl) (fun vs H Q E h => ?_) fun cdv A outer s H vs Q E hr h => ⟨_, (pss_one (ps_for PassesOwn.never rfl (pi_enumT (by rfl) (b_enumerate T) (pa_cons (pe_fld (pv 0) rfl) pa_nil)) (pg_tup (n := 2) rfl (pgs_cons (pg_name (i := 2) sc_look_room.nd rfl (Or.inl rfl)) (pgs_cons (pg_name (i := 3) sc_look_room.nd rfl (Or.inl rfl)) pgs_nil))) (pss_one (ps_if (pt_cmpR op_gt (pv 3) (pv 1) (nomark _)) (pss_one ps_never) pss_nil)))), ?_⟩
  · obtain ⟨a, t, most, rfl, _⟩ := h
    rfl
  obtain ⟨a, t, most, rfl, ht, hm, hq⟩ := h
  refine c_fld ?_
  walk_at "rd"
  refine r_lengths T ht fun l hl => ?_
  walk_at "rd"
  refine ⟨l, _, rfl, hl, ?_⟩
  refine L2.for_it walk_enumT (fun i σ' H' => Go [] H H' ∧ σ'[1]? = some (some (.int most)) ∧ σ'.length = 4) ⟨Go.refl, rfl, rfl⟩ (fun i σ' H' _ z => z.1.tup hl) (fun i x σ' H' H2 hi z y => ?_) fun σ' H' z => hq _ z.1
  obtain ⟨q, x1, x2, rfl, e1, rfl, e3, e4⟩ := y
  obtain ⟨g, s1, s2⟩ := z
  have hi' : i < t.ls.length := by simpa using hi
  cases e3
  have e5 : x2 = .int t.ls[i] := by simpa [hi'] using e4.symm
  subst e5
  refine c_tupG (sqT upd_same) rfl ?_
  match σ', s1, s2 with
  | [a0, a1, a2, a3], s1, _ =>
  cases s1
  walk_at "rd"
  refine ifd (fun z => ?_) fun _ => ?_
  · exact absurd (hm _ (List.getElem_mem hi')) (by omega)
  · exact ⟨g.trans' (Go.new e1), rfl, rfl⟩
/-! ### stands -/
def sp_first_stand (K : PySem.W.Frag) : Sp := fun vs H Q E => vs = [] ∧ ∀ p, SqT K H p (sdV sd0) → Q (.ref p) H
theorem ok_first_stand (T : Txt K mg) : Has P w K mg base (0 + 1) (He.ga K "first_stand") [] [] (sp_first_stand K) := by
  refine has_of (fd_first_stand T) sc_first_stand (fun _ _ _ _ _ _ us hl => match us, hl with | [], _ => rfl) (fun vs H Q E h => ?_) fun cdv A outer s H vs Q E hr h => ⟨_, (pss_one (ps_ret (pe_glob (v := .ref (He.ga K "FIRST")) (by rfl) (g_FIRST T) rfl))), ?_⟩
  · rw [h.1]
    rfl
  obtain ⟨rfl, hq⟩ := h
  walk_at "rd"
  exact hq _ (He.tupB_ok T.fst H)
def sp_is_over (K : PySem.W.Frag) : Sp := fun vs H Q E => ∃ a sa t R s, vs = [.ref a, .ref sa] ∧ TalkAt K H a t ∧ TkOk t R ∧ SqT K H sa (sdV s) ∧ ∀ H', Go [] H H' → Q (.bl (decide (s.p = t.ls.sum))) H'
def sp_has_room (K : PySem.W.Frag) : Sp := fun vs H Q E => ∃ a sa t s most, vs = [.ref a, .ref sa, .int most] ∧ TalkAt K H a t ∧ SqT K H sa (sdV s) ∧ ∀ H', Go [] H H' → Q (.bl (hasRoom t most s)) H'
theorem ok_has_room (T : Txt K mg) : Has P w K mg base (0 + 1) (He.ga K "has_room") ["talk", "stand", "most"] [] (sp_has_room K) := by
  refine has_of (fd_has_room T) sc_has_room (fun _ _ _ _ _ _ us hl => match us, hl with | [_, _, _], _ => rfl) (fun vs H Q E h => ?_) fun cdv A outer s H vs Q E hr h => ⟨_, (pss_cons (ps_asg (pv 1) (pg_star (i := 4) rfl (pgs_cons (pg_name (i := 3) sc_has_room.nd rfl (Or.inl rfl)) (pgs_cons (pg_name (i := 4) sc_has_room.nd rfl (Or.inl rfl)) (pgs_cons (pg_name (i := 5) sc_has_room.nd rfl (Or.inl rfl)) (pgs_cons (pg_name (i := 6) sc_has_room.nd rfl (Or.inl rfl)) (pgs_star (pg_name (i := 7) sc_has_room.nd rfl (Or.inl rfl)) pgs_nil)))))))
      (pss_one (ps_ret (pe_and (pe_cmpR op_lt (pv 3) (pe_callB call_lenR (by rfl) (b_len T) bt_len (pa_cons (pe_fld (pv 0) rfl) pa_nil)) (nomark _)) (pe_one (pe_cmpR op_le (pe_op op_add (pv 6) (pe_ix ix_tup (pe_fld (pv 0) rfl) (pv 3) (fun _ _ => rfl))) (pv 2) (nomark _))))))), ?_⟩
  · obtain ⟨a, sa, t, s, most, rfl, _⟩ := h
    rfl
  obtain ⟨a, sa, t, s, most, rfl, ht, hs, hq⟩ := h
  walk_at "rd"
  refine c_sd4 hs fun p H1 g _ e => ?_
  have ht := ht.go g
  walk_at "rd"
  refine r_lengths T ht fun l hl => ?_
  walk_at "rd"
  refine ⟨l, _, rfl, .inr hl, ?_⟩
  walk_at "rd"
  refine ifd (fun h1 => ?_) fun h1 => ?_
  · walk_at "rd"
    refine r_lengths T ht fun l hl => ?_
    walk_at "rd"
    refine c_ixT hl (atI_map (by simpa using h1)) ?_
    walk_at "rd"
    have e : hasRoom t most s = decide (s.k + t.ls.getD s.n 0 ≤ most) := by
      have h2 : s.n < t.ls.length := by simpa using h1
      simp [hasRoom, h2, Tk.l]
    rw [← e]
    exact hq _ g
  · have e : hasRoom t most s = false := by
      have h2 : ¬ s.n < t.ls.length := by simpa using h1
      simp [hasRoom, h2]
    rw [← e]
    exact hq _ g
def sp_asks (K : PySem.W.Frag) : Sp := fun vs H Q E => ∃ a sa t s most, vs = [.ref a, .ref sa, .int most] ∧ TalkAt K H a t ∧ SqT K H sa (sdV s) ∧ (∀ l ∈ t.ls, l ≤ most) ∧ ∀ H', Go [] H H' → Q (.bl (asksB t most s)) H'
theorem len_asks : ∀ vs H Q E, sp_asks K vs H Q E → vs.length = 3 := by
  intro vs H Q E h
  obtain ⟨a, sa, t, s, most, rfl, _⟩ := h
  rfl
theorem bd_asks (T : Txt K mg) (cdv : Value) (A : Around) (outer : List Env) (s : Shared) (H : Hp) (vs : List V) (Q : VK) (E : XK) (hr : Room 2 (A.deeper (envOfC "asks" (defScope s_asks) s.heap.objs.size (He.ga K "asks") cdv))) (h : (sp_asks K) vs H Q E) :
    ∃ t, PSs (cxOf CX0 P w K mg base ["talk", "stand", "most"] "asks" (defScope s_asks) (He.ga K "asks") cdv A outer s H E).nox (defBody s_asks) t ∧ t { nx := fun _ H' => Q .non H', rt := Q } (start ["talk", "stand", "most"] vs) H := by
  refine ⟨_, (pss_cons (ps_expr (pe_callH (ok_look_room T) (hr.mono (by decide)) (by rfl) (g_look_room T) (pa_cons (pv 0) (pa_cons (pv 2) pa_nil))))
      (pss_one (ps_ret (pe_and (pe_cmpR op_eq (pe_ix ix_tup (pv 1) pe_int (fun _ _ => rfl)) (pe_gint (by rfl) (i_NONE T)) (nomark _)) (pe_one (pe_callH (ok_has_room T) (hr.mono (by decide)) (by rfl) (g_has_room T) (pa_cons (pv 0) (pa_cons (pv 1) (pa_cons (pv 2) pa_nil))))))))), ?_⟩
  obtain ⟨a, sa, t, s, most, rfl, ht, hs, hm, hq⟩ := h
  walk_at "rd"
  refine ⟨a, t, most, rfl, ht, hm, fun H1 g => ?_⟩
  walk_at "rd"
  refine c_ixT (g.tup hs) (i := 1) rfl ?_
  walk_at "rd"
  refine ifd (fun h1 => ?_) fun h1 => ?_
  · walk_at "rd"
    refine ⟨a, sa, t, s, most, rfl, ht.go g, g.tup hs, fun H2 g2 => ?_⟩
    have e : asksB t most s = hasRoom t most s := by simp [asksB, h1]
    rw [← e]
    exact hq _ (g.trans' g2)
  · have e : asksB t most s = false := by simp [asksB, h1]
    rw [← e]
    exact hq _ g
def gv_asks_m (vs zs : List V) : List V := vs ++ zs
theorem ok_asks_m (T : Txt K mg) : HasN P w K mg base (2 + 1) (He.ga K "asks") ["talk", "stand", "most"] 2 ["most"] gv_asks_m (sp_asks K) :=
  hasN_of (P := P) (w := w) (base := base) (k := 2) 2 ["most"] [] (fun us mv ws => us ++ ws) (fd_asks T) sc_asks (fun z => nomatch z) (by decide +kernel) (fun r1 r2 r3 => r1.append r3)
    (fun _ _ _ _ _ _ us mv ws h1 h2 h3 => match us, mv, ws, h1, h2, h3 with | [_, _], [], [_], _, _, _ => rfl) len_asks (bd_asks T)
def sp_chosen (K : PySem.W.Frag) : Sp := fun vs H Q E => ∃ sa s r wt, vs = [.ref sa, .int r, .int wt] ∧ SqT K H sa (sdV s) ∧ ∀ H' p, Go [] H H' → SqT K H' p (sdV (chosenS wt s r)) → Q (.ref p) H'
theorem len_chosen : ∀ vs H Q E, sp_chosen K vs H Q E → vs.length = 3 := by
  intro vs H Q E h
  obtain ⟨sa, s, r, wt, rfl, _⟩ := h
  rfl
theorem bd_chosen (T : Txt K mg) (cdv : Value) (A : Around) (outer : List Env) (s : Shared) (H : Hp) (vs : List V) (Q : VK) (E : XK) (hr : Room 0 (A.deeper (envOfC "chosen" (defScope s_chosen) s.heap.objs.size (He.ga K "chosen") cdv))) (h : (sp_chosen K) vs H Q E) :
    ∃ t, PSs (cxOf CX0 P w K mg base ["stand", "rate", "wait", "number", "coming", "got", "others"] "chosen" (defScope s_chosen) (He.ga K "chosen") cdv A outer s H E).nox (defBody s_chosen) t ∧ t { nx := fun _ H' => Q .non H', rt := Q } (start ["stand", "rate", "wait", "number", "coming", "got", "others"] vs) H := by
  refine ⟨_, (pss_cons (ps_asg (pv 0) (pg_star (i := 3) rfl (pgs_cons (pg_name (i := 3) sc_chosen.nd rfl (Or.inl rfl)) (pgs_cons (pg_name (i := 4) sc_chosen.nd rfl (Or.inl rfl)) (pgs_cons (pg_name (i := 5) sc_chosen.nd rfl (Or.inl rfl)) (pgs_star (pg_name (i := 6) sc_chosen.nd rfl (Or.inl rfl)) pgs_nil))))))
      (pss_one (ps_ret (pe_op op_catA (pe_tup (pa_cons (pv 3) (pa_cons (pv 1) (pa_cons (pe_op op_sub pe_int (pv 2)) pa_nil)))) (pe_callTy call_tupR (by rfl) (b_tuple T) bt_tuple (pa_cons (pv 6) pa_nil)))))), ?_⟩
  obtain ⟨sa, s, r, wt, rfl, hs, hq⟩ := h
  walk_at "rd"
  refine c_sd3 hs fun p H1 g _ e => ?_
  walk_at "rd"
  refine newTup fun p2 H2 g2 _ e2 => ?_
  walk_at "rd"
  refine ⟨p, _, rfl, .inl ⟨sqL (g2.chg _ _ e (by simp)), fun l hl => ?_⟩⟩
  have g3 := Go.new (S := []) (o := HO.tup [V.int s.k, V.int s.p, V.int s.o]) hl
  refine c_catA (sqT (g3.chg _ _ e2 (by simp))) (sqT upd_same) (Nat.le_of_ble_eq_true rfl) fun p4 H4 g4 e4 => ?_
  refine hq _ _ (((g.trans' g2).trans' g3).trans' g4) ?_
  have e0 : sdV (chosenS wt s r) = [V.int s.n, V.int r, V.int (0 - wt)] ++ [V.int s.k, V.int s.p, V.int s.o] := rfl
  rw [e0]
  exact e4
def gv_chosen_w (vs zs : List V) : List V := vs ++ zs
theorem ok_chosen_w (T : Txt K mg) : HasN P w K mg base (0 + 1) (He.ga K "chosen") ["stand", "rate", "wait"] 2 ["wait"] gv_chosen_w (sp_chosen K) :=
  hasN_of (P := P) (w := w) (base := base) (k := 0) 2 ["wait"] [] (fun us mv ws => us ++ ws) (fd_chosen T) sc_chosen (fun z => nomatch z) (by decide +kernel) (fun r1 r2 r3 => r1.append r3)
    (fun _ _ _ _ _ _ us mv ws h1 h2 h3 => match us, mv, ws, h1, h2, h3 with | [_, _], [], [_], _, _, _ => rfl) len_chosen (bd_chosen T)
def sp_begins (K : PySem.W.Frag) : Sp := fun vs H Q E => ∃ a sa t s b ag m, vs = [.ref a, .ref sa, .int b, .int ag, .int m] ∧ TalkAt K H a t ∧ SqT K H sa (sdV s) ∧ (s.o = 0 ∨ s.o = 2) ∧ ∀ H', Go [] H H' → Q (.bl (beginsB t s b ag m)) H'
theorem ok_begins (T : Txt K mg) : Has P w K mg base (1 + 1) (He.ga K "begins") ["talk", "stand", "begin", "again", "most"] [] (sp_begins K) := by
  refine has_of (fd_begins T) sc_begins (fun _ _ _ _ _ _ us hl => match us, hl with | [_, _, _, _, _], _ => rfl) (fun vs H Q E h => ?_) fun cdv A outer s H vs Q E hr h => ⟨_, (pss_cons (ps_asg (pv 1) (pg_tup (n := 6) rfl (pgs_cons (pg_name (i := 5) sc_begins.nd rfl (Or.inl rfl)) (pgs_cons (pg_name (i := 6) sc_begins.nd rfl (Or.inl rfl)) (pgs_cons (pg_name (i := 7) sc_begins.nd rfl (Or.inl rfl)) (pgs_cons (pg_name (i := 8) sc_begins.nd rfl (Or.inl rfl)) (pgs_cons (pg_name (i := 9) sc_begins.nd rfl (Or.inl rfl)) (pgs_cons (pg_name (i := 10) sc_begins.nd rfl (Or.inl rfl)) pgs_nil))))))))
      (pss_cons (ps_if (PW.pt (pw_or (pt_cmpR op_ge (pv 8) (pe_dget (hu_of hr) (pe_disp (pps_cons (pe_gint (by rfl) (i_AHEAD T)) (pv 2) (pps_cons (pe_gint (by rfl) (i_STALLS T)) (pv 3) pps_nil)) (by rfl) (by rfl) (fun z => by cases z) (by decide)) (pv 10) (fun _ _ => rfl)) (nomark _)) (pw_or1 (pt_cmpR op_eq (pv 5) (pe_callB call_lenR (by rfl) (b_len T) bt_len (pa_cons (pe_fld (pv 0) rfl) pa_nil)) (nomark _))))) (pss_one (ps_ret pe_bl)) pss_nil)
      (pss_one (ps_ret (pe_and (pe_cmpR op_eq (pv 6) (pe_gint (by rfl) (i_NONE T)) (nomark _)) (pe_one (pe_not (pe_callH (ok_has_room T) (hr.mono (by decide)) (by rfl) (g_has_room T) (pa_cons (pv 0) (pa_cons (pv 1) (pa_cons (pv 4) pa_nil))))))))))), ?_⟩
  · obtain ⟨a, sa, t, s, b, ag, m, rfl, _⟩ := h
    rfl
  obtain ⟨a, sa, t, s, b, ag, m, rfl, ht, hs, ho, hq⟩ := h
  walk_at "rd"
  refine c_sd6 hs ?_
  walk_at "rd"
  refine c_dget2 (r := .int (if s.o = 0 then b else ag)) (fun _ _ q => q) (fun _ _ q => ⟨_, rfl, q⟩) (fun _ _ q => q) (fun _ _ q => ⟨_, rfl, q⟩) (by decide) (fun _ _ q => ⟨_, rfl, q⟩) (by
    rcases ho with e | e
    · exact .inl ⟨e, by rw [if_pos e]⟩
    · exact .inr ⟨e, by rw [if_neg (by omega)]⟩) fun H1 g => ?_
  walk_at "rd"
  refine ifd (fun h1 => ?_) fun h1 => ?_
  · show Q (.bl true) H1
    have e : beginsB t s b ag m = true := by simp only [beginsB, decide_eq_true h1, Bool.true_or]
    rw [← e]
    exact hq _ g
  · walk_at "rd"
    refine r_lengths T (ht.go g) fun l hl => ?_
    walk_at "rd"
    refine ⟨l, _, rfl, .inr hl, ?_⟩
    walk_at "rd"
    rw [List.length_map]
    refine ifd (fun h2 => ?_) fun h2 => ?_
    · show Q (.bl true) H1
      have e : beginsB t s b ag m = true := by simp only [beginsB, decide_eq_true (show s.n = t.ls.length by omega), Bool.true_or, Bool.or_true]
      rw [← e]
      exact hq _ g
    · walk_at "rd"
      have h2' : ¬ s.n = t.ls.length := by omega
      refine ifd (fun h3 => ?_) fun h3 => ?_
      · walk_at "rd"
        refine ⟨a, sa, t, s, m, rfl, ht.go g, g.tup hs, fun H2 g2 => ⟨_, rfl, ?_⟩⟩
        have e : beginsB t s b ag m = !hasRoom t m s := by
          rw [beginsB, decide_eq_false h1, decide_eq_false h2', decide_eq_true h3]
          simp
        rw [← e]
        exact hq _ (g.trans' g2)
      · have e : beginsB t s b ag m = false := by
          rw [beginsB, decide_eq_false h1, decide_eq_false h2', decide_eq_false h3]
          simp
        rw [← e]
        exact hq _ g
def sp_played_on (K : PySem.W.Frag) : Sp := fun vs H Q E => ∃ a sa t s b ag m, vs = [.ref a, .ref sa, .int b, .int ag, .int m] ∧ TalkAt K H a t ∧ SqT K H sa (sdV s) ∧ (s.o = 0 ∨ s.o = 1 ∨ s.o = 2) ∧
  ∀ H' p, Go [] H H' → SqT K H' p [.int (playedT t s b ag m).1, .int (playedT t s b ag m).2.1, .int (playedT t s b ag m).2.2] → Q (.ref p) H'
theorem ok_played_on (T : Txt K mg) : Has P w K mg base (2 + 1) (He.ga K "played_on") ["talk", "stand", "begin", "again", "most"] [] (sp_played_on K) := by
  refine has_of (fd_played_on T) sc_played_on (fun _ _ _ _ _ _ us hl => match us, hl with | [_, _, _, _, _], _ => rfl) (fun vs H Q E h => ?_) fun cdv A outer s H vs Q E hr h => ⟨_, (pss_cons (ps_asg (pv 1) (pg_tup (n := 6) rfl (pgs_cons (pg_name (i := 5) sc_played_on.nd rfl (Or.inl rfl)) (pgs_cons (pg_name (i := 6) sc_played_on.nd rfl (Or.inl rfl)) (pgs_cons (pg_name (i := 7) sc_played_on.nd rfl (Or.inl rfl)) (pgs_cons (pg_name (i := 8) sc_played_on.nd rfl (Or.inl rfl)) (pgs_cons (pg_name (i := 9) sc_played_on.nd rfl (Or.inl rfl)) (pgs_cons (pg_name (i := 10) sc_played_on.nd rfl (Or.inl rfl)) pgs_nil))))))))
      (pss_cons (ps_if (PW.pt (pw_and (pt_cmpR op_ne (pv 10) (pe_gint (by rfl) (i_PLAYS T)) (nomark _)) (pw_and1 (pt_not (pt_val (pe_callH (ok_begins T) (hr.mono (by decide)) (by rfl) (g_begins T) (pa_cons (pv 0) (pa_cons (pv 1) (pa_cons (pv 2) (pa_cons (pv 3) (pa_cons (pv 4) pa_nil))))))))))) (pss_one (ps_ret (pe_tup (pa_cons (pv 8) (pa_cons (pv 9) (pa_cons (pv 10) pa_nil)))))) pss_nil)
      (pss_cons (ps_if (pt_cmpR op_eq (pv 8) pe_int (nomark _)) (pss_one (ps_ret (pe_tup (pa_cons (pv 8) (pa_cons (pv 9) (pa_cons (pe_gint (by rfl) (i_STALLS T)) pa_nil)))))) pss_nil)
      (pss_one (ps_ret (pe_tup (pa_cons (pe_op op_sub (pv 8) pe_int) (pa_cons (pe_op op_add (pv 9) pe_int) (pa_cons (pe_gint (by rfl) (i_PLAYS T)) pa_nil))))))))), ?_⟩
  · obtain ⟨a, sa, t, s, b, ag, m, rfl, _⟩ := h
    rfl
  obtain ⟨a, sa, t, s, b, ag, m, rfl, ht, hs, ho, hq⟩ := h
  walk_at "rd"
  refine c_sd6 hs ?_
  walk_at "rs"
  refine c_ifB (decide (s.o ≠ 1 ∧ beginsB t s b ag m = false)) (fun QB k => ?_) fun H1 g => ?_
  · walk_at "rd"
    refine ifb (fun h1 => ?_) fun h1 => ?_
    · have h1 : s.o ≠ 1 := by simpa using h1
      walk_at "rd"
      refine ⟨a, sa, t, s, b, ag, m, rfl, ht, hs, by omega, fun H1 g => ?_⟩
      walk_at "rd"
      have e : decide (s.o ≠ 1 ∧ beginsB t s b ag m = false) = !beginsB t s b ag m := by
        cases beginsB t s b ag m <;> simp [h1]
      rw [← e]
      exact k _ g
    · have h1 : s.o = 1 := by simpa using h1
      have e : decide (s.o ≠ 1 ∧ beginsB t s b ag m = false) = false := by simp [h1]
      rw [← e]
      exact k _ Go.refl
  refine ifd (fun h1 => ?_) fun h1 => ?_
  · walk_at "rd"
    refine newTup fun p H2 g2 _ e => hq _ _ (g.trans' g2) ?_
    rw [playedT, if_pos h1]
    exact sqT e
  · walk_at "rd"
    refine ifd (fun h2 => ?_) fun h2 => ?_
    · walk_at "rd"
      refine newTup fun p H2 g2 _ e => hq _ _ (g.trans' g2) ?_
      rw [playedT, if_neg h1, if_pos h2]
      exact sqT e
    · walk_at "rd"
      refine newTup fun p H2 g2 _ e => hq _ _ (g.trans' g2) ?_
      rw [playedT, if_neg h1, if_neg h2]
      exact sqT e
def sp_beat_on (K : PySem.W.Frag) : Sp := fun vs H Q E => ∃ a sa t s v b ag m R, vs = [.ref a, .ref sa, .int v, .int b, .int ag, .int m] ∧ TalkAt K H a t ∧ SqT K H sa (sdV s) ∧ TkOk t R ∧ SdOk t R s ∧
  ∀ H' p, Go [] H H' → SqT K H' p (sdV (beatS t s v b ag m)) → Q (.ref p) H'
theorem ok_beat_on (T : Txt K mg) : Has P w K mg base (3 + 1) (He.ga K "beat_on") ["talk", "stand", "speed", "begin", "again", "most"] [] (sp_beat_on K) := by
  refine has_of (fd_beat_on T) sc_beat_on (fun _ _ _ _ _ _ us hl => match us, hl with | [_, _, _, _, _, _], _ => rfl) (fun vs H Q E h => ?_) fun cdv A outer s H vs Q E hr h => ⟨_, (pss_cons (ps_asg (pv 1) (pg_star (i := 3) rfl (pgs_cons (pg_name (i := 6) sc_beat_on.nd rfl (Or.inl rfl)) (pgs_cons (pg_name (i := 7) sc_beat_on.nd rfl (Or.inl rfl)) (pgs_cons (pg_name (i := 8) sc_beat_on.nd rfl (Or.inl rfl)) (pgs_star (pg_name (i := 9) sc_beat_on.nd rfl (Or.inl rfl)) pgs_nil))))))
      (pss_cons (ps_asg (pe_callH (ok_played_on T) (hr.mono (by decide)) (by rfl) (g_played_on T) (pa_cons (pv 0) (pa_cons (pv 1) (pa_cons (pv 3) (pa_cons (pv 4) (pa_cons (pv 5) pa_nil)))))) (pg_tup (n := 3) rfl (pgs_cons (pg_name (i := 10) sc_beat_on.nd rfl (Or.inl rfl)) (pgs_cons (pg_name (i := 11) sc_beat_on.nd rfl (Or.inl rfl)) (pgs_cons (pg_name (i := 12) sc_beat_on.nd rfl (Or.inl rfl)) pgs_nil)))))
      (pss_cons (ps_if (pt_cmpR op_eq (pv 7) (pe_gint (by rfl) (i_NONE T)) (nomark _)) (pss_one (ps_ret (pe_tup (pa_cons (pv 6) (pa_cons (pv 7) (pa_cons (pv 8) (pa_cons (pv 10) (pa_cons (pv 11) (pa_cons (pv 12) pa_nil))))))))) pss_nil)
      (pss_cons (ps_aug (i := 8) sc_beat_on.nd rfl (Or.inl rfl) (pe_ifExp (pt_cmpR op_lt (pv 8) pe_int (nomark _)) pe_int (pv 2)) ip_add)
      (pss_cons (ps_if (pt_cmpR op_lt (pv 8) (pe_ix ix_tup (pe_ix ix_tup (pe_fld (pv 0) rfl) (pv 6) (fun _ _ => rfl)) (pv 7) (fun _ _ => rfl)) (nomark _)) (pss_one (ps_ret (pe_tup (pa_cons (pv 6) (pa_cons (pv 7) (pa_cons (pv 8) (pa_cons (pv 10) (pa_cons (pv 11) (pa_cons (pv 12) pa_nil))))))))) pss_nil)
      (pss_one (ps_ret (pe_tup (pa_cons (pe_op op_add (pv 6) pe_int) (pa_cons (pe_gint (by rfl) (i_NONE T)) (pa_cons pe_int (pa_cons (pe_op op_add (pv 10) (pe_ix ix_tup (pe_fld (pv 0) rfl) (pv 6) (fun _ _ => rfl))) (pa_cons (pv 11) (pa_cons (pv 12) pa_nil)))))))))))))), ?_⟩
  · obtain ⟨a, sa, t, s, v, b, ag, m, R, rfl, _⟩ := h
    rfl
  obtain ⟨a, sa, t, s, v, b, ag, m, R, rfl, ht, hs, ok, so, hq⟩ := h
  walk_at "rd"
  refine c_sd3 hs fun p H1 g _ e => ?_
  walk_at "rd"
  refine ⟨a, sa, t, s, b, ag, m, rfl, ht.go g, g.tup hs, so.o, fun H2 p2 g2 e2 => ?_⟩
  replace g := g.trans' g2
  refine c_tupG e2 rfl ?_
  generalize hk : playedT t s b ag m = kpo at e2
  walk_at "rd"
  refine ifd (fun h1 => ?_) fun h1 => ?_
  · walk_at "rd"
    refine newTup fun p H3 g2 _ e => hq _ _ (g.trans' g2) ?_
    have e3 : beatS t s v b ag m = ⟨s.n, s.c, s.g, kpo.1, kpo.2.1, kpo.2.2⟩ := by rw [beatS, hk, if_pos h1]
    rw [e3]
    exact sqT e
  · obtain ⟨hc0, hc1, hn⟩ := so.c.resolve_left h1
    have hrow : ∃ row, t.zs[s.n]? = some row := ⟨_, List.getElem?_eq_getElem (by rw [ok.zl]; exact hn)⟩
    obtain ⟨row, hrow⟩ := hrow
    have hlen := ok.rl _ (List.mem_of_getElem? hrow)
    have hz : t.z s.n s.c = row.getD s.c.toNat 0 := by
      have e : t.zs.getD s.n [] = row := by rw [List.getD_eq_getElem?_getD, hrow]; rfl
      rw [Tk.z, e]
    have hci : ((s.c.toNat : Nat) : Int) = s.c := Int.toNat_of_nonneg hc0
    have hcl : s.c.toNat < row.length := by omega
    have hc : atI (row.map V.int) s.c = some (.int (row.getD s.c.toNat 0)) := by
      have z := atI_map hcl
      rw [hci] at z
      exact z
    have ht := ht.go g
    refine c_next ?_
    refine c_seq ?_
    refine c_augI (y := if s.g < 0 then 1 else v) (by with_unfolding_all rfl) (fun q hq => ?_) ?_
    · walk_at "rd"
      refine ifd (fun h => ?_) fun h => ?_
      · rw [if_pos h] at hq
        exact hq
      · rw [if_neg h] at hq
        walk_at "rd"
        exact hq
    walk_at "rd"
    refine r_sizes T ht fun z rs hz2 hrs => ?_
    obtain ⟨r, hr2⟩ : ∃ r, rs[s.n]? = some r := ⟨_, List.getElem?_eq_getElem (by rw [hrs.1, ok.zl]; exact hn)⟩
    walk_at "rd"
    refine c_ixT hz2 (atI_ref hr2) ?_
    walk_at "rd"
    refine c_ixT (hrs.2 _ _ _ hr2 hrow) hc ?_
    walk_at "rd"
    refine ifd (fun h2 => ?_) fun h2 => ?_
    · walk_at "rd"
      refine newTup fun p H3 g2 _ e => hq _ _ (g.trans' g2) ?_
      have e3 : beatS t s v b ag m = ⟨s.n, s.c, gotV s v, kpo.1, kpo.2.1, kpo.2.2⟩ := by
        rw [beatS, hk, if_neg h1, if_pos (by rw [hz]; exact h2)]
      rw [e3]
      exact sqT e
    · walk_at "rd"
      refine r_lengths T ht fun l hl => ?_
      walk_at "rd"
      refine c_ixT hl (atI_map hn) ?_
      walk_at "rd"
      refine newTup fun p H3 g2 _ e => hq _ _ (g.trans' g2) ?_
      have e3 : beatS t s v b ag m = ⟨s.n + 1, -1, 0, kpo.1 + t.l s.n, kpo.2.1, kpo.2.2⟩ := by
        rw [beatS, hk, if_neg h1, if_neg (by rw [hz]; exact h2)]
      rw [e3]
      exact sqT e
def sp_gone (K : PySem.W.Frag) : Sp := fun vs H Q E => ∃ a sa t s v b ag m R, vs = [.ref a, .ref sa, .int v, .int b, .int ag, .int m] ∧ TalkAt K H a t ∧ SqT K H sa (sdV s) ∧ TkOk t R ∧ SdOk t R s ∧ (∀ l ∈ t.ls, l ≤ m) ∧
  ∀ H' p, Go [] H H' → SqT K H' p (sdV (beatS t s v b ag m)) → Q (.ref p) H'
theorem len_gone : ∀ vs H Q E, sp_gone K vs H Q E → vs.length = 6 := by
  intro vs H Q E h
  obtain ⟨a, sa, t, s, v, b, ag, m, R, rfl, _⟩ := h
  rfl
theorem bd_gone (T : Txt K mg) (cdv : Value) (A : Around) (outer : List Env) (s : Shared) (H : Hp) (vs : List V) (Q : VK) (E : XK) (hr : Room 4 (A.deeper (envOfC "gone" (defScope s_gone) s.heap.objs.size (He.ga K "gone") cdv))) (h : (sp_gone K) vs H Q E) :
    ∃ t, PSs (cxOf CX0 P w K mg base ["talk", "stand", "speed", "begin", "again", "most"] "gone" (defScope s_gone) (He.ga K "gone") cdv A outer s H E).nox (defBody s_gone) t ∧ t { nx := fun _ H' => Q .non H', rt := Q } (start ["talk", "stand", "speed", "begin", "again", "most"] vs) H := by
  refine ⟨_, (pss_cons (ps_expr (pe_callH (ok_look_room T) (hr.mono (by decide)) (by rfl) (g_look_room T) (pa_cons (pv 0) (pa_cons (pv 5) pa_nil))))
      (pss_one (ps_ret (pe_callH (ok_beat_on T) (hr.mono (by decide)) (by rfl) (g_beat_on T) (pa_cons (pv 0) (pa_cons (pv 1) (pa_cons (pv 2) (pa_cons (pv 3) (pa_cons (pv 4) (pa_cons (pv 5) pa_nil)))))))))), ?_⟩
  obtain ⟨a, sa, t, s, v, b, ag, m, R, rfl, ht, hs, ok, so, hm, hq⟩ := h
  walk_at "rd"
  refine ⟨a, t, m, rfl, ht, hm, fun H1 g => ?_⟩
  walk_at "rd"
  exact ⟨a, sa, t, s, v, b, ag, m, R, rfl, ht.go g, g.tup hs, ok, so, fun H2 p g2 e => hq _ _ (g.trans' g2) e⟩
def gv_gone_bam (vs zs : List V) : List V := vs ++ zs
theorem ok_gone_bam (T : Txt K mg) : HasN P w K mg base (4 + 1) (He.ga K "gone") ["talk", "stand", "speed", "begin", "again", "most"] 3 ["begin", "again", "most"] gv_gone_bam (sp_gone K) :=
  hasN_of (P := P) (w := w) (base := base) (k := 4) 3 ["begin", "again", "most"] [] (fun us mv ws => us ++ ws) (fd_gone T) sc_gone (fun z => nomatch z) (by decide +kernel) (fun r1 r2 r3 => r1.append r3)
    (fun _ _ _ _ _ _ us mv ws h1 h2 h3 => match us, mv, ws, h1, h2, h3 with | [_, _, _], [], [_, _, _], _, _, _ => rfl) len_gone (bd_gone T)
theorem ok_is_over (T : Txt K mg) : Has P w K mg base (2 + 1) (He.ga K "is_over") ["talk", "stand"] [] (sp_is_over K) := by
  refine has_of (fd_is_over T) sc_is_over (fun _ _ _ _ _ _ us hl => match us, hl with | [_, _], _ => rfl) (fun vs H Q E h => ?_) fun cdv A outer s H vs Q E hr h => ⟨_, (pss_one (ps_ret (pe_cmpR op_eq (pe_ix ix_tup (pv 1) pe_int (fun _ _ => rfl)) (pe_callB (cr_lenI_H (ok_Talk_len T) (m_Talk_len T) (hr.mono (by decide))) (by rfl) (b_len T) bt_len (pa_cons (pv 0) pa_nil)) (nomark _)))), ?_⟩
  · obtain ⟨a, sa, t, R, s, rfl, _⟩ := h
    rfl
  obtain ⟨a, sa, t, R, s, rfl, ht, ok, hs, hq⟩ := h
  walk_at "rd"
  refine c_ixT hs (i := 4) rfl ?_
  walk_at "rd"
  obtain ⟨dx, l, z, rs, h1, h2⟩ := ht.ex
  obtain ⟨q1, q2⟩ := sum_ls ok
  refine ⟨a, dx, _, rfl, h1, a, t, R, rfl, ht, ok, fun H1 g => ⟨t.ls.sum.toNat, by rw [Int.toNat_of_nonneg (by omega)], by omega, ?_⟩⟩
  rw [Int.toNat_of_nonneg (by omega)]
  walk_at "rd"
  exact hq _ g
def sp_is_rate (K : PySem.W.Frag) : Sp := fun vs H Q E => ∃ a z t R, vs = [.ref a, .int z] ∧ TalkAt K H a t ∧ TkOk t R ∧ ∀ H', Go [] H H' → Q (.bl (decide (0 ≤ z ∧ z < R))) H'
theorem ok_is_rate (T : Txt K mg) : Has P w K mg base (1 + 1) (He.ga K "is_rate") ["talk", "thing"] [] (sp_is_rate K) := by
  refine has_of (fd_is_rate T) sc_is_rate (fun _ _ _ _ _ _ us hl => match us, hl with | [_, _], _ => rfl) (fun vs H Q E h => ?_) fun cdv A outer s H vs Q E hr h => ⟨_, (pss_one (ps_ret (pe_and (pe_callB call_isi (by rfl) (b_isinstance T) bt_isinstance (pa_cons (pv 1) (pa_cons (pe_bltn (v := .ty "int") (by rfl) (b_int T) bt_int rfl) pa_nil))) (pe_and (pe_not (pe_callB call_isi (by rfl) (b_isinstance T) bt_isinstance (pa_cons (pv 1) (pa_cons (pe_bltn (v := .ty "bool") (by rfl) (b_bool T) bt_bool rfl) pa_nil)))) (pe_one (pe_chain op_le op_lt pe_int (pv 1) (pe_methH0 (ok_Talk_many_rates T) (c_Talk T) (m_Talk_many_rates T) (hr.mono (by decide)) (pv 0)))))))), ?_⟩
  · obtain ⟨a, z, t, R, rfl, _⟩ := h
    rfl
  obtain ⟨a, z, t, R, rfl, ht, ok, hq⟩ := h
  walk_at "rd"
  refine isi_int ?_
  walk_at "rd"
  refine isi_bool ?_
  walk_at "rd"
  walk_at "rd"
  refine ifd (fun h1 => ?_) fun h1 => ?_
  · walk_at "rd"
    refine r_meth_talk ht rfl ?_
    walk_at "rd"
    refine ⟨a, t, R, rfl, ht, ok, fun H1 g => ?_⟩
    walk_at "rd"
    have e : decide (0 ≤ z ∧ z < (R : Int)) = decide (z < (R : Int)) := by simp [h1]
    rw [← e]
    exact hq _ g
  · have e : decide (0 ≤ z ∧ z < (R : Int)) = false := by simp [h1]
    rw [← e]
    exact hq _ Go.refl
def sp_is_pace (K : PySem.W.Frag) : Sp := fun vs H Q E => ∃ z, vs = [.int z] ∧ Q (.bl (decide (0 ≤ z))) H
theorem ok_is_pace (T : Txt K mg) : Has P w K mg base (0 + 1) (He.ga K "is_pace") ["thing"] [] (sp_is_pace K) := by
  refine has_of (fd_is_pace T) sc_is_pace (fun _ _ _ _ _ _ us hl => match us, hl with | [_], _ => rfl) (fun vs H Q E h => ?_) fun cdv A outer s H vs Q E hr h => ⟨_, (pss_one (ps_ret (pe_and (pe_callB call_isi (by rfl) (b_isinstance T) bt_isinstance (pa_cons (pv 0) (pa_cons (pe_bltn (v := .ty "int") (by rfl) (b_int T) bt_int rfl) pa_nil))) (pe_and (pe_not (pe_callB call_isi (by rfl) (b_isinstance T) bt_isinstance (pa_cons (pv 0) (pa_cons (pe_bltn (v := .ty "bool") (by rfl) (b_bool T) bt_bool rfl) pa_nil)))) (pe_one (pe_cmpR op_ge (pv 0) pe_int (nomark _))))))), ?_⟩
  · obtain ⟨z, rfl, _⟩ := h
    rfl
  obtain ⟨z, rfl, hq⟩ := h
  walk_at "rd"
  refine isi_int ?_
  walk_at "rd"
  refine isi_bool ?_
  walk_at "rd"
  exact hq
def sp_seen_at (K : PySem.W.Frag) : Sp := fun vs H Q E => ∃ sa s u v, vs = [.ref sa, u, v] ∧ SqT K H sa (sdV s) ∧ ∀ H' p, Go [] H H' → SqT K H' p [.int (s.n : Int), .int s.k, u, v] → Q (.ref p) H'
theorem ok_seen_at (T : Txt K mg) : Has P w K mg base (0 + 1) (He.ga K "seen_at") ["stand", "rate", "speed"] [] (sp_seen_at K) := by
  refine has_of (fd_seen_at T) sc_seen_at (fun _ _ _ _ _ _ us hl => match us, hl with | [_, _, _], _ => rfl) (fun vs H Q E h => ?_) fun cdv A outer s H vs Q E hr h => ⟨_, (pss_one (ps_ret (pe_tup (pa_cons (pe_ix ix_tup (pv 0) pe_int (fun _ _ => rfl)) (pa_cons (pe_ix ix_tup (pv 0) pe_int (fun _ _ => rfl)) (pa_cons (pv 1) (pa_cons (pv 2) pa_nil))))))), ?_⟩
  · obtain ⟨sa, s, u, v, rfl, _⟩ := h
    rfl
  obtain ⟨sa, s, u, v, rfl, hs, hq⟩ := h
  walk_at "rd"
  refine c_ixT hs (i := 0) rfl ?_
  walk_at "rd"
  refine c_ixT hs (i := 3) rfl ?_
  walk_at "rd"
  exact newTup fun p H2 g2 _ e => hq _ _ g2 (sqT e)
end
end Rp
end
section
set_option Elab.async false
set_option linter.all false
set_option maxRecDepth 100000
set_option maxHeartbeats 4000000
namespace Rp
open PySem PySem.Spec PyProof.Rows L2
local macro_rules | `(tactic| walk_at "rd1") => `(tactic| with_reducible first
  | refine c_seq ?_ | refine c_asg ?_ | refine c_drop ?_ | refine c_ret ?_ | refine c_ifS ?_ | refine c_brk ?_ | refine c_name ?_
  | refine c_gcons ?_ | refine c_gnil ?_ | refine c_var (by with_unfolding_all rfl) ?_ | refine c_op ?_ | refine c_un ?_ | refine c_c ?_
  | refine c_I0 ?_ | refine c_U ?_ | refine c_ip ?_ | refine c_eqI ?_ | refine c_neI ?_ | refine c_test ?_ | refine c_tB ?_
  | refine c_not ?_ | refine c_and ?_ | refine c_or ?_ | refine c_andV ?_ | refine c_orV ?_ | refine c_notV ?_ | refine c_if ?_
  | refine c_cons ?_ | refine c_nil ?_ | refine c_tupN ?_ | refine c_lstN ?_ | refine c_CB ?_ | refine c_call ?_ | refine c_meth ?_ | refine c_fld ?_ | refine c_sfld ?_ | refine c_gfld ?_
  | refine c_aug (by with_unfolding_all rfl) ?_ | refine c_fldaug ?_ | refine c_sl ?_ | refine c_noPart ?_ | refine c_part ?_ | refine c_callN ?_ | refine c_bm ?_ | refine c_bm0 ?_ | refine c_make ?_ | refine c_makeK ?_ | refine c_asg2 ?_ | refine c_asg3 ?_ | refine c_itT ?_ | refine c_itN ?_ | refine c_itNT ?_ | refine c_itF ?_ | refine c_chain ?_ | refine c_next ?_ | refine ⟨_, (rfl : V.bl _ = V.bl _), ?_⟩ | refine ⟨_, (rfl : V.int _ = V.int _), ?_⟩)
local macro_rules | `(tactic| walk_at "rs1") => `(tactic| with_reducible first
  | refine c_seq ?_ | refine c_asg ?_ | refine c_drop ?_ | refine c_ret ?_ | refine c_brk ?_ | refine c_name ?_
  | refine c_gcons ?_ | refine c_gnil ?_ | refine c_var (by with_unfolding_all rfl) ?_ | refine c_op ?_ | refine c_un ?_ | refine c_c ?_
  | refine c_I0 ?_ | refine c_U ?_ | refine c_ip ?_ | refine c_eqI ?_ | refine c_neI ?_ | refine c_test ?_ | refine c_tB ?_
  | refine c_not ?_ | refine c_and ?_ | refine c_or ?_ | refine c_andV ?_ | refine c_orV ?_ | refine c_notV ?_ | refine c_if ?_
  | refine c_cons ?_ | refine c_nil ?_ | refine c_tupN ?_ | refine c_lstN ?_ | refine c_CB ?_ | refine c_call ?_ | refine c_meth ?_ | refine c_fld ?_ | refine c_sfld ?_ | refine c_gfld ?_
  | refine c_aug (by with_unfolding_all rfl) ?_ | refine c_fldaug ?_ | refine c_sl ?_ | refine c_noPart ?_ | refine c_part ?_ | refine c_callN ?_ | refine c_bm ?_ | refine c_bm0 ?_ | refine c_make ?_ | refine c_makeK ?_ | refine c_asg2 ?_ | refine c_asg3 ?_ | refine c_itT ?_ | refine c_itN ?_ | refine c_itNT ?_ | refine c_itF ?_ | refine c_chain ?_ | refine c_next ?_ | refine ⟨_, (rfl : V.bl _ = V.bl _), ?_⟩ | refine ⟨_, (rfl : V.int _ = V.int _), ?_⟩)
local macro_rules | `(tactic| walk_at "rd") => `(tactic| repeat walk_at "rd1")
local macro_rules | `(tactic| walk_at "rs") => `(tactic| repeat walk_at "rs1")

/-! ### the lambda -/
def lamE : Expr := match (defBody s_law_over_all)[2]? with
  | some (Stmt.While _ b _ _) => match b[1]? with
    | some (Stmt.Assign _ (Expr.BinOp _ _ (Expr.Call _ _ [k] _) _) _) => k.value
    | _ => .Constant (.int 0) 0 ⟨0, 0, 0, 0⟩
  | _ => .Constant (.int 0) 0 ⟨0, 0, 0, 0⟩
def lamArgs : Arguments := match lamE with
  | .Lambda a _ _ _ => a
  | _ => ⟨[], [], none, [], [], none, []⟩
def lamBody : Expr := match lamE with
  | .Lambda _ b _ _ => b
  | _ => lamE
def lamScope : Scope := match lamE with
  | .Lambda _ _ s _ => s
  | _ => { kind := .function, names := [], isGenerator := false, isCoroutine := false }
def lamQ : Str := (envOfC "_law_over_all" (defScope s_law_over_all) 0 0 .none).qual ++ "<lambda>"
theorem lamN : LamN lamScope "_law_seen" "_law_plan" := ⟨rfl, rfl, rfl, by decide +kernel, by decide +kernel, by decide +kernel, by decide +kernel, by decide +kernel⟩
section
variable {P : Program} {w : World} {K : PySem.W.Frag} {mg : Str → Option Value} {base : Heap}
theorem sqT_del {H : Hp} {a c : Addr} {xs : List V} {φ : Heap → Prop} (hc : H c = some (.ext φ)) (h : SqT K H a xs) : SqT K (delH H c) a xs := by
  rcases h with (h | ⟨o, h⟩) | h
  · exact .inl (.inl (by rw [delH_ne fun z => by rw [z, hc] at h; cases h]; exact h))
  · exact .inl (.inr ⟨o, by rw [delH_ne fun z => by rw [z, hc] at h; cases h]; exact h⟩)
  · exact .inr h
theorem call_isiC {Z : Cx} : CallR Z (.builtin "isinstance") (fun xs H Q => rIsi Z.K xs H Q ∨ rIsiF Z.base xs H Q) := by
  intro pins s σ H xs us Q I r h
  rcases h with h | h
  · exact call_isi pins s σ H xs us Q I r h
  · exact call_isiF pins s σ H xs us Q I r h
/-- a plan, or the lambda that holds one -/
def ChAt (base : Heap) (H : Hp) (ch : Addr) (plan : List Int) : Prop :=
  H ch = some (.tup (plan.map V.int)) ∨ ∃ c c' pl, LamAt base H lamQ lamArgs lamBody lamScope "_law_plan" (.ref pl) ch c c' ∧ H pl = some (.tup (plan.map V.int))
theorem ChAt.go {S : List Addr} {H H' : Hp} {ch : Addr} {plan : List Int} (h : ChAt base H ch plan) (g : Go S H H') : ChAt base H' ch plan := by
  rcases h with h | ⟨c, c', pl, h1, h2⟩
  · exact .inl (g.fix _ _ h rfl)
  · exact .inr ⟨c, c', pl, h1.mono fun b φ e => g.fix _ _ e rfl, g.fix _ _ h2 rfl⟩
def sp_rate_by (base : Heap) (K : PySem.W.Frag) : Sp := fun vs H Q E => ∃ (a ch se : Addr) (t : Tk) (R : Nat) (plan : List Int) (n : Nat) (rest : List V), vs = [.ref a, .ref ch, .ref se] ∧ TalkAt K H a t ∧ TkOk t R ∧ SqT K H se (.int (n : Int) :: rest) ∧
  (∀ z ∈ plan, 0 ≤ z ∧ z < R) ∧ n < plan.length ∧ ChAt base H ch plan ∧ ∀ H', Go [] H H' → Q (.int (plan.getD n 0)) H'
theorem ok_rate_by (T : Txt K mg) : Has P w K mg base (2 + 1) (He.ga K "rate_by") ["talk", "chooser", "seen"] [] (sp_rate_by base K) := by
  refine has_of (fd_rate_by T) sc_rate_by (fun _ _ _ _ _ _ us hl => match us, hl with | [_, _, _], _ => rfl) (fun vs H Q E h => ?_) fun cdv A outer s H vs Q E hr h => ⟨_, (pss_cons (ps_if (pt_val (pe_callB call_isiC (by rfl) (b_isinstance T) bt_isinstance (pa_cons (pv 1) (pa_cons (pe_bltn (v := .ty "tuple") (by rfl) (b_tuple T) bt_tuple rfl) pa_nil)))) (pss_one (ps_ret (pe_ix ix_tup (pv 1) (pe_ix ix_tup (pv 2) pe_int (fun _ _ => rfl)) (fun _ _ => rfl)))) pss_nil)
      (pss_cons (ps_set (i := 3) sc_rate_by.nd rfl (Or.inl rfl) (pe_callLam (i := 1) (k := 0) (q := lamQ) (params := lamArgs) (body := lamBody) (scope := lamScope) (tb := tOp (rIxT K) (tVar 1) (tOp (rIxT K) (tVar 0) (tC (.int 0)))) (by rfl) (.inl rfl) (hr.mono (by decide)) lamN (pv 2) (by intros; rfl) (fun _ _ _ _ _ _ => pe_ix ix_tup (pv 1) (pe_ix ix_tup (pv 0) pe_int (fun _ _ => rfl)) (fun _ _ => rfl))))
      (pss_one (ps_ret (pe_ifExp (pt_val (pe_callH (ok_is_rate T) (hr.mono (by decide)) (by rfl) (g_is_rate T) (pa_cons (pv 0) (pa_cons (pv 3) pa_nil)))) (pv 3) pe_int))))), ?_⟩
  · obtain ⟨a, ch, se, t, R, plan, n, rest, rfl, _⟩ := h
    rfl
  obtain ⟨a, ch, se, t, R, plan, n, rest, rfl, ht, ok, hs, hp, hn, hch, hq⟩ := h
  walk_at "rd"
  rcases hch with hch | ⟨c, c', pl, hl, hpl⟩
  · refine .inl (isi_tup hch ?_)
    walk_at "rd"
    refine c_ixT hs (atI_nat (j := 0) rfl) ?_
    walk_at "rd"
    exact c_ixT (sqT hch) (atI_map hn) (hq _ Go.refl)
  · have ef : ∃ o, (H ch = some (ObjO ch o) ∨ base.get? ch = some o) ∧ o.cls = .type "function" := by
      obtain ⟨pm, ctv, e | e⟩ := hl.ob
      · exact ⟨_, .inl e, rfl⟩
      · exact ⟨_, .inr e, rfl⟩
    obtain ⟨o, eo, ec⟩ := ef
    refine .inr ⟨ch, o, "tuple", false, rfl, eo, ec, by kernel_rfl, ?_⟩
    walk_at "rd"
    refine ⟨ch, c, c', .ref pl, by with_unfolding_all rfl, hl, ?_⟩
    walk_at "rd"
    refine ⟨hl, ?_⟩
    obtain ⟨oc, u, hc, _⟩ := hl.cel
    walk_at "rd"
    refine c_ixT (sqT_del hc hs) (atI_nat (j := 0) rfl) ?_
    walk_at "rd"
    refine c_ixT (sqT_del hc (sqT hpl)) (atI_map hn) ?_
    refine ⟨rfl, ?_⟩
    walk_at "rd"
    refine ⟨a, _, t, R, rfl, ht, ok, fun H1 g => ?_⟩
    have hz := hp (plan.getD n 0) (by
      rw [List.getD_eq_getElem?_getD, List.getElem?_eq_getElem hn]
      exact List.getElem_mem hn)
    rw [decide_eq_true hz]
    walk_at "rd"
    exact hq _ g
/-! ### speeds, roads -/
def sp_Speed_init (K : PySem.W.Frag) : Sp := fun vs H Q E => ∃ x dx b n, vs = [.ref x, .int b, .int n] ∧ H x = some (.ins (He.ga K "Speed") dx []) ∧ ∀ H', Go [x] H H' → Q .non H'
theorem fix_speed0 {C dx : Addr} : fixO (.ins C dx []) = false := rfl
theorem ok_Speed_init (T : Txt K mg) : Has P w K mg base (0 + 1) (He.ma K (He.ga K "Speed") "__init__") ["self", "bits", "beats"] [] (sp_Speed_init K) := by
  refine has_of (fd_Speed_init T) sc_Speed_init (fun _ _ _ _ _ _ us hl => match us, hl with | [_, _, _], _ => rfl) (fun vs H Q E h => ?_) fun cdv A outer s H vs Q E hr h => ⟨_, (pss_cons (ps_fld (pv 0) (pv 1) rfl)
      (pss_one (ps_fld (pv 0) (pv 2) rfl))), ?_⟩
  · obtain ⟨x, dx, b, n, rfl, _⟩ := h
    rfl
  obtain ⟨x, dx, b, n, rfl, hx, hq⟩ := h
  walk_at "rd"
  refine n_Speed_bits T (vs := []) hx rfl ?_
  walk_at "rd"
  refine n_Speed_beats T upd_same rfl ?_
  refine hq _ ((Go.mut (by simp) hx rfl).trans' (Go.mut (by simp) upd_same ?_))
  kernel_rfl
/-- pieces: beats, speeds -/
def speedAt : List (Int × Int) → Int → Int → Int
  | [], _, d => d
  | p :: r, n, d => if n < p.1 then p.2 else speedAt r (n - p.1) d
structure RoadAt (K : PySem.W.Frag) (H : Hp) (a : Addr) (ps : List (Int × Int)) : Prop where
  ex : ∃ (dx l : Addr) (rs : List Addr), H a = some (.ins (He.ga K "Road") dx (kRoad.zip [.ref l])) ∧ SqT K H l (rs.map V.ref) ∧ rs.length = ps.length ∧ ∀ (i : Nat) r p, rs[i]? = some r → ps[i]? = some p → SqT K H r [.int p.1, .int p.2]
theorem fix_road {C dx : Addr} {u : V} : fixO (.ins C dx (kRoad.zip [u])) = true := by kernel_rfl
theorem RoadAt.go {S : List Addr} {H H' : Hp} {a : Addr} {ps : List (Int × Int)} (h : RoadAt K H a ps) (g : Go S H H') : RoadAt K H' a ps := by
  obtain ⟨dx, l, rs, h1, h2, h3, h4⟩ := h.ex
  exact ⟨dx, l, rs, g.fix _ _ h1 fix_road, g.tup h2, h3, fun i r p e1 e2 => g.tup (h4 i r p e1 e2)⟩
def sp_Road_init (K : PySem.W.Frag) : Sp := fun vs H Q E => ∃ x dx l, vs = [.ref x, .ref l] ∧ H x = some (.ins (He.ga K "Road") dx []) ∧ ∀ H', Go [x] H H' → H' x = some (.ins (He.ga K "Road") dx (kRoad.zip [.ref l])) → Q .non H'
theorem ok_Road_init (T : Txt K mg) : Has P w K mg base (0 + 1) (He.ma K (He.ga K "Road") "__init__") ["self", "pieces"] [] (sp_Road_init K) := by
  refine has_of (fd_Road_init T) sc_Road_init (fun _ _ _ _ _ _ us hl => match us, hl with | [_, _], _ => rfl) (fun vs H Q E h => ?_) fun cdv A outer s H vs Q E hr h => ⟨_, (pss_one (ps_fld (pv 0) (pv 1) rfl)), ?_⟩
  · obtain ⟨x, dx, l, rfl, _⟩ := h
    rfl
  obtain ⟨x, dx, l, rfl, hx, hq⟩ := h
  walk_at "rd"
  refine n_Road_pieces T (vs := []) hx rfl ?_
  exact hq _ (Go.mut (by simp) hx rfl) upd_same
def sp_Talk_init (K : PySem.W.Frag) : Sp := fun vs H Q E => ∃ x dx l z, vs = [.ref x, .ref l, .ref z] ∧ H x = some (.ins (He.ga K "Talk") dx []) ∧ ∀ H', Go [x] H H' → H' x = some (.ins (He.ga K "Talk") dx (kTalk.zip [.ref l, .ref z])) → Q .non H'
theorem upd_upd {H : Hp} {a : Addr} {u v : HO} : upd (upd H a u) a v = upd H a v := by
  funext b
  by_cases h : b = a
  · rw [h, upd_same, upd_same]
  · rw [upd_ne h, upd_ne h, upd_ne h]
theorem ok_Talk_init (T : Txt K mg) : Has P w K mg base (0 + 1) (He.ma K (He.ga K "Talk") "__init__") ["self", "lengths", "sizes"] [] (sp_Talk_init K) := by
  refine has_of (fd_Talk_init T) sc_Talk_init (fun _ _ _ _ _ _ us hl => match us, hl with | [_, _, _], _ => rfl) (fun vs H Q E h => ?_) fun cdv A outer s H vs Q E hr h => ⟨_, (pss_cons (ps_fld (pv 0) (pv 1) rfl)
      (pss_one (ps_fld (pv 0) (pv 2) rfl))), ?_⟩
  · obtain ⟨x, dx, l, z, rfl, _⟩ := h
    rfl
  obtain ⟨x, dx, l, z, rfl, hx, hq⟩ := h
  walk_at "rd"
  refine n_Talk_lengths T (vs := []) hx rfl ?_
  walk_at "rd"
  refine n_Talk_sizes T upd_same rfl ?_
  rw [upd_upd]
  exact hq _ (Go.mut (by simp) hx rfl) upd_same
def sp_Run_init (K : PySem.W.Frag) : Sp := fun vs H Q E => ∃ x dx v1 v2 v3 v4 v5 v6 v7, vs = [.ref x, v1, v2, v3, v4, v5, v6, v7] ∧ H x = some (.ins (He.ga K "Run") dx []) ∧ ∀ H', Go [x] H H' → H' x = some (.ins (He.ga K "Run") dx (kRun.zip [v1, v2, v3, v4, v5, v6, v7])) → Q .non H'
theorem ok_Run_init (T : Txt K mg) : Has P w K mg base (0 + 1) (He.ma K (He.ga K "Run") "__init__") ["self", "rates", "begun", "whole", "plays", "stalls", "ended", "kept"] [] (sp_Run_init K) := by
  refine has_of (fd_Run_init T) sc_Run_init (fun _ _ _ _ _ _ us hl => match us, hl with | [_, _, _, _, _, _, _, _], _ => rfl) (fun vs H Q E h => ?_) fun cdv A outer s H vs Q E hr h => ⟨_, (pss_cons (ps_fld (pv 0) (pv 1) rfl)
      (pss_cons (ps_fld (pv 0) (pv 2) rfl)
      (pss_cons (ps_fld (pv 0) (pv 3) rfl)
      (pss_cons (ps_fld (pv 0) (pv 4) rfl)
      (pss_cons (ps_fld (pv 0) (pv 5) rfl)
      (pss_cons (ps_fld (pv 0) (pv 6) rfl)
      (pss_one (ps_fld (pv 0) (pv 7) rfl)))))))), ?_⟩
  · obtain ⟨x, dx, v1, v2, v3, v4, v5, v6, v7, rfl, _⟩ := h
    rfl
  obtain ⟨x, dx, v1, v2, v3, v4, v5, v6, v7, rfl, hx, hq⟩ := h
  walk_at "rd"
  refine n_Run_rates T (vs := []) hx rfl ?_
  walk_at "rd"
  refine n_Run_begun T upd_same rfl ?_
  walk_at "rd"
  refine n_Run_whole T upd_same rfl ?_
  walk_at "rd"
  refine n_Run_plays T upd_same rfl ?_
  walk_at "rd"
  refine n_Run_stalls T upd_same rfl ?_
  walk_at "rd"
  refine n_Run_ended T upd_same rfl ?_
  walk_at "rd"
  refine n_Run_kept T upd_same rfl ?_
  rw [upd_upd, upd_upd, upd_upd, upd_upd, upd_upd, upd_upd]
  exact hq _ (Go.mut (by simp) hx rfl) upd_same
def lastV (ps : List (Int × Int)) : Int := (ps.getLastD (0, 0)).2
def sp_Road_speed_at (K : PySem.W.Frag) : Sp := fun vs H Q E => ∃ a n ps, vs = [.ref a, .int n] ∧ RoadAt K H a ps ∧ ps ≠ [] ∧ Q (.int (speedAt ps n (lastV ps))) H
theorem ok_Road_speed_at (T : Txt K mg) : Has P w K mg base (0 + 1) (He.ma K (He.ga K "Road") "speed_at") ["self", "beat"] [] (sp_Road_speed_at K) := by
  refine has_of (fd_Road_speed_at T) sc_Road_speed_at (fun _ _ _ _ _ _ us hl => match us, hl with | [_, _], _ => rfl) (fun vs H Q E h => ?_) fun cdv A outer s H vs Q E hr h => ⟨_, (pss_cons (ps_set (i := 2) sc_Road_speed_at.nd rfl (Or.inl rfl) (pv 1))
      (pss_cons (ps_for PassesOwn.never rfl (pi_tup (pe_fld (pv 0) rfl)) (pg_tup (n := 2) rfl (pgs_cons (pg_name (i := 3) sc_Road_speed_at.nd rfl (Or.inl rfl)) (pgs_cons (pg_name (i := 4) sc_Road_speed_at.nd rfl (Or.inl rfl)) pgs_nil))) (pss_cons (ps_if (pt_cmpR op_lt (pv 2) (pv 3) (nomark _)) (pss_one (ps_ret (pv 4))) pss_nil)
      (pss_one (ps_aug (i := 2) sc_Road_speed_at.nd rfl (Or.inl rfl) (pv 3) ip_sub))))
      (pss_one (ps_ret (pe_ix ix_tup (pe_ix ix_tup (pe_fld (pv 0) rfl) (pe_un un_neg pe_int) (fun _ _ => rfl)) pe_int (fun _ _ => rfl)))))), ?_⟩
  · obtain ⟨a, n, ps, rfl, _⟩ := h
    rfl
  obtain ⟨a, n, ps, rfl, ha, hne, hq⟩ := h
  obtain ⟨dx, l, rs, h1, h2, h3, h4⟩ := ha.ex
  walk_at "rd"
  refine c_fld ?_
  walk_at "rd"
  refine f_Road_pieces T h1 rfl ⟨l, rfl, ⟨_, h2⟩, ?_⟩
  refine L2.for_it (walk_tup (xs := rs.map V.ref)) (fun i σ' H' => H' = H ∧ ∃ left, σ'[0]? = some (some (.ref a)) ∧ σ'[2]? = some (some (.int left)) ∧ σ'.length = 5 ∧ speedAt (ps.drop i) left (lastV ps) = speedAt ps n (lastV ps)) ⟨rfl, n, rfl, rfl, rfl, rfl⟩ (fun i σ' H' _ z => by rw [z.1]; exact h2) (fun i x σ' H' H2 hi z y => ?_) fun σ' H' z => ?_
  · obtain ⟨rfl, left, s0, s2, sl, e⟩ := z
    obtain ⟨rfl, hx⟩ := y
    have hi' : i < rs.length := by simpa using hi
    have hip : i < ps.length := by omega
    have ex : x = .ref rs[i] := by
      rw [List.getElem?_map, List.getElem?_eq_getElem hi'] at hx
      exact (Option.some.inj hx).symm
    subst ex
    refine c_tupG (h4 i _ _ (List.getElem?_eq_getElem hi') (List.getElem?_eq_getElem hip)) rfl ?_
    rw [List.drop_eq_getElem_cons hip, speedAt] at e
    match σ', s0, s2, sl with
    | [a0, a1, a2, a3, a4], s0, s2, _ =>
    cases s0
    cases s2
    walk_at "rd"
    refine ifd (fun h => ?_) fun h => ?_
    · rw [if_pos h] at e
      walk_at "rd"
      rw [← e] at hq
      exact hq
    · rw [if_neg h] at e
      walk_at "rd"
      exact ⟨rfl, left - ps[i].1, rfl, rfl, rfl, e⟩
  · obtain ⟨rfl, left, s0, s2, sl, e⟩ := z
    rw [List.length_map, h3, List.drop_length] at e
    match σ', s0, s2, sl with
    | [a0, a1, a2, a3, a4], s0, s2, _ =>
    cases s0
    walk_at "rd"
    refine f_Road_pieces T h1 rfl ?_
    walk_at "rd"
    have hl : 0 < rs.length := by
      rw [h3]
      exact List.length_pos_iff.mpr hne
    have hat : ∀ (α : Type) (xs : List α) (h : 0 < xs.length), atI xs (-1) = some (xs.getLast (List.length_pos_iff.mp h)) := fun α xs h => by
      have e := atI_last xs.dropLast (xs.getLast (List.length_pos_iff.mp h))
      rw [List.dropLast_concat_getLast] at e
      exact e
    refine c_ixT h2 (hat _ _ (by simpa using hl)) ?_
    have hrl : rs.length - 1 < rs.length := by omega
    have hpl : rs.length - 1 < ps.length := by omega
    have e5 : (rs.map V.ref).getLast (List.length_pos_iff.mp (by simpa using hl)) = .ref rs[rs.length - 1] := by
      rw [List.getLast_eq_getElem, List.getElem_map]
      simp
    rw [e5]
    walk_at "rd"
    refine c_ixT (h4 _ _ _ (List.getElem?_eq_getElem hrl) (List.getElem?_eq_getElem hpl)) (i := 1) rfl ?_
    have e6 : lastV ps = ps[rs.length - 1].2 := by
      rw [lastV, List.getLastD_eq_getLast?, List.getLast?_eq_getElem?, ← h3, List.getElem?_eq_getElem hpl]
      rfl
    rw [← e, speedAt, e6] at hq
    exact hq
end
end Rp
end
section
set_option Elab.async false
set_option linter.all false
set_option maxRecDepth 100000
set_option maxHeartbeats 4000000
namespace Rp
open PySem PySem.Spec PyProof.Rows L2
local macro_rules | `(tactic| walk_at "rd1") => `(tactic| with_reducible first
  | refine c_seq ?_ | refine c_asg ?_ | refine c_drop ?_ | refine c_ret ?_ | refine c_ifS ?_ | refine c_brk ?_ | refine c_name ?_
  | refine c_gcons ?_ | refine c_gnil ?_ | refine c_var (by with_unfolding_all rfl) ?_ | refine c_op ?_ | refine c_un ?_ | refine c_c ?_
  | refine c_I0 ?_ | refine c_U ?_ | refine c_ip ?_ | refine c_eqI ?_ | refine c_neI ?_ | refine c_test ?_ | refine c_tB ?_
  | refine c_not ?_ | refine c_and ?_ | refine c_or ?_ | refine c_andV ?_ | refine c_orV ?_ | refine c_notV ?_ | refine c_if ?_
  | refine c_cons ?_ | refine c_nil ?_ | refine c_tupN ?_ | refine c_lstN ?_ | refine c_CB ?_ | refine c_call ?_ | refine c_meth ?_ | refine c_fld ?_ | refine c_sfld ?_ | refine c_gfld ?_
  | refine c_aug (by with_unfolding_all rfl) ?_ | refine c_fldaug ?_ | refine c_sl ?_ | refine c_noPart ?_ | refine c_part ?_ | refine c_callN ?_ | refine c_bm ?_ | refine c_bm0 ?_ | refine c_make ?_ | refine c_makeK ?_ | refine c_asg2 ?_ | refine c_asg3 ?_ | refine c_itT ?_ | refine c_itN ?_ | refine c_itNT ?_ | refine c_itF ?_ | refine c_chain ?_ | refine c_next ?_ | refine ⟨_, (rfl : V.bl _ = V.bl _), ?_⟩ | refine ⟨_, (rfl : V.int _ = V.int _), ?_⟩)
local macro_rules | `(tactic| walk_at "rs1") => `(tactic| with_reducible first
  | refine c_seq ?_ | refine c_asg ?_ | refine c_drop ?_ | refine c_ret ?_ | refine c_brk ?_ | refine c_name ?_
  | refine c_gcons ?_ | refine c_gnil ?_ | refine c_var (by with_unfolding_all rfl) ?_ | refine c_op ?_ | refine c_un ?_ | refine c_c ?_
  | refine c_I0 ?_ | refine c_U ?_ | refine c_ip ?_ | refine c_eqI ?_ | refine c_neI ?_ | refine c_test ?_ | refine c_tB ?_
  | refine c_not ?_ | refine c_and ?_ | refine c_or ?_ | refine c_andV ?_ | refine c_orV ?_ | refine c_notV ?_ | refine c_if ?_
  | refine c_cons ?_ | refine c_nil ?_ | refine c_tupN ?_ | refine c_lstN ?_ | refine c_CB ?_ | refine c_call ?_ | refine c_meth ?_ | refine c_fld ?_ | refine c_sfld ?_ | refine c_gfld ?_
  | refine c_aug (by with_unfolding_all rfl) ?_ | refine c_fldaug ?_ | refine c_sl ?_ | refine c_noPart ?_ | refine c_part ?_ | refine c_callN ?_ | refine c_bm ?_ | refine c_bm0 ?_ | refine c_make ?_ | refine c_makeK ?_ | refine c_asg2 ?_ | refine c_asg3 ?_ | refine c_itT ?_ | refine c_itN ?_ | refine c_itNT ?_ | refine c_itF ?_ | refine c_chain ?_ | refine c_next ?_ | refine ⟨_, (rfl : V.bl _ = V.bl _), ?_⟩ | refine ⟨_, (rfl : V.int _ = V.int _), ?_⟩)
local macro_rules | `(tactic| walk_at "rd") => `(tactic| repeat walk_at "rd1")
local macro_rules | `(tactic| walk_at "rs") => `(tactic| repeat walk_at "rs1")

theorem nd_ne {α : Type} {l : List α} (h : l.Nodup) {i j : Nat} {a b : α} (hi : l[i]? = some a) (hj : l[j]? = some b) (hij : i ≠ j) : a ≠ b := by
  intro e
  subst e
  obtain ⟨i1, e1⟩ := List.getElem?_eq_some_iff.mp hi
  obtain ⟨j1, e2⟩ := List.getElem?_eq_some_iff.mp hj
  exact hij ((List.getElem_inj h).mp (e1.trans e2.symm))
/-- the addresses of a walk: itself, its six lists -/
structure Wa where
  w : Addr
  l1 : Addr
  l2 : Addr
  l3 : Addr
  l4 : Addr
  l5 : Addr
  l6 : Addr
def Wa.all (A : Wa) : List Addr := [A.w, A.l1, A.l2, A.l3, A.l4, A.l5, A.l6]
/-- what a walk keeps -/
structure Wk where
  s : Sd
  b : Int
  rl : V
  sl : V
  r : List Int
  g : List Int
  f : List Int
  p : List Int
  st : List (Int × Int)
  k : List Int
def StAt (K : PySem.W.Frag) (H : Hp) (ps : List Addr) (st : List (Int × Int)) : Prop := ps.length = st.length ∧ ∀ (i : Nat) p q, ps[i]? = some p → st[i]? = some q → SqT K H p [.int q.1, .int q.2]
def wkV (A : Wa) (ta ch lm sa : Addr) (op : Op) (W : Wk) : List V := [.ref ta, .ref ch, .ref lm, .int op.w, .non, .ref sa, .int W.b, W.rl, W.sl, .ref A.l1, .ref A.l2, .ref A.l3, .ref A.l4, .ref A.l5, .ref A.l6]
structure WalkAt (K : PySem.W.Frag) (H : Hp) (A : Wa) (ta ch : Addr) (op : Op) (W : Wk) : Prop where
  ob : ∃ dx lm sa, H A.w = some (.ins (He.ga K "Walk") dx (kWalk.zip (wkV A ta ch lm sa op W))) ∧ SqT K H lm [.int op.b, .int op.a, .int op.m] ∧ SqT K H sa (sdV W.s)
  h1 : H A.l1 = some (.lst (W.r.map V.int))
  h2 : H A.l2 = some (.lst (W.g.map V.int))
  h3 : H A.l3 = some (.lst (W.f.map V.int))
  h4 : H A.l4 = some (.lst (W.p.map V.int))
  h5 : ∃ ps : List Addr, H A.l5 = some (.lst (ps.map V.ref)) ∧ StAt K H ps W.st
  h6 : H A.l6 = some (.lst (W.k.map V.int))
  nd : A.all.Nodup
section
variable {K : PySem.W.Frag} {mg : Str → Option Value} {S : List Addr} {H H' : Hp} {A : Wa} {ta ch : Addr} {op : Op} {W : Wk} {Q : VK} {q : Hp → Prop} {D : Ends} {σ : L2.St}
theorem StAt.go {ps : List Addr} {st : List (Int × Int)} (h : StAt K H ps st) (g : Go S H H') : StAt K H' ps st := ⟨h.1, fun i p q e1 e2 => g.tup (h.2 i p q e1 e2)⟩
theorem WalkAt.go (h : WalkAt K H A ta ch op W) (g : Go S H H') (hd : ∀ a ∈ A.all, ¬ a ∈ S) : WalkAt K H' A ta ch op W := by
  obtain ⟨dx, lm, sa, e1, e2, e3⟩ := h.ob
  obtain ⟨ps, p1, p2⟩ := h.h5
  have m : ∀ {i : Nat} {a : Addr}, A.all[i]? = some a → ¬ a ∈ S := fun e => hd _ (List.mem_of_getElem? e)
  exact ⟨⟨dx, lm, sa, g.chg _ _ e1 (m (i := 0) rfl), g.tup e2, g.tup e3⟩, g.chg _ _ h.h1 (m (i := 1) rfl), g.chg _ _ h.h2 (m (i := 2) rfl), g.chg _ _ h.h3 (m (i := 3) rfl), g.chg _ _ h.h4 (m (i := 4) rfl), ⟨ps, g.chg _ _ p1 (m (i := 5) rfl), p2.go g⟩, g.chg _ _ h.h6 (m (i := 6) rfl), h.nd⟩
theorem WalkAt.go0 (h : WalkAt K H A ta ch op W) (g : Go [] H H') : WalkAt K H' A ta ch op W := h.go g fun _ _ => by simp
theorem fix_walk {C dx : Addr} {vs : List V} : fixO (.ins C dx (kWalk.zip vs)) = false := by
  have h : ∀ ks : List Str, (∀ k ∈ ks, fixK.contains k = false) → ∀ vs : List V, (ks.zip vs).any (fun q => fixK.contains q.1) = false := by
    intro ks
    induction ks with
    | nil => intro _ vs; rfl
    | cons k ks ih =>
      intro hk vs
      cases vs with
      | nil => rfl
      | cons v vs =>
        rw [List.zip_cons_cons, List.any_cons, hk k List.mem_cons_self, ih (fun x hx => hk x (List.mem_cons_of_mem _ hx)) vs]
        rfl
  exact h kWalk (by decide +kernel) vs

theorem rw_talk_walked (T : Txt K mg) (h : WalkAt K H A ta ch op W) (k : Q (.ref ta) H) : FldR K "talk_walked" (.ref A.w) H Q := by
  obtain ⟨dx, lm, sa, e1, e2, e3⟩ := h.ob
  exact f_Walk_talk_walked T e1 rfl k
theorem rw_chooser_asked (T : Txt K mg) (h : WalkAt K H A ta ch op W) (k : Q (.ref ch) H) : FldR K "chooser_asked" (.ref A.w) H Q := by
  obtain ⟨dx, lm, sa, e1, e2, e3⟩ := h.ob
  exact f_Walk_chooser_asked T e1 rfl k
theorem rw_waiting (T : Txt K mg) (h : WalkAt K H A ta ch op W) (k : Q (.int op.w) H) : FldR K "waiting" (.ref A.w) H Q := by
  obtain ⟨dx, lm, sa, e1, e2, e3⟩ := h.ob
  exact f_Walk_waiting T e1 rfl k
theorem rw_opening (T : Txt K mg) (h : WalkAt K H A ta ch op W) (k : Q (.non) H) : FldR K "opening" (.ref A.w) H Q := by
  obtain ⟨dx, lm, sa, e1, e2, e3⟩ := h.ob
  exact f_Walk_opening T e1 rfl k
theorem rw_beat_here (T : Txt K mg) (h : WalkAt K H A ta ch op W) (k : Q (.int W.b) H) : FldR K "beat_here" (.ref A.w) H Q := by
  obtain ⟨dx, lm, sa, e1, e2, e3⟩ := h.ob
  exact f_Walk_beat_here T e1 rfl k
theorem rw_rate_last (T : Txt K mg) (h : WalkAt K H A ta ch op W) (k : Q (W.rl) H) : FldR K "rate_last" (.ref A.w) H Q := by
  obtain ⟨dx, lm, sa, e1, e2, e3⟩ := h.ob
  exact f_Walk_rate_last T e1 rfl k
theorem rw_speed_last (T : Txt K mg) (h : WalkAt K H A ta ch op W) (k : Q (W.sl) H) : FldR K "speed_last" (.ref A.w) H Q := by
  obtain ⟨dx, lm, sa, e1, e2, e3⟩ := h.ob
  exact f_Walk_speed_last T e1 rfl k
theorem rw_rates (T : Txt K mg) (h : WalkAt K H A ta ch op W) (k : Q (.ref A.l1) H) : FldR K "rates" (.ref A.w) H Q := by
  obtain ⟨dx, lm, sa, e1, e2, e3⟩ := h.ob
  exact f_Walk_rates T e1 rfl k
theorem rw_begun (T : Txt K mg) (h : WalkAt K H A ta ch op W) (k : Q (.ref A.l2) H) : FldR K "begun" (.ref A.w) H Q := by
  obtain ⟨dx, lm, sa, e1, e2, e3⟩ := h.ob
  exact f_Walk_begun T e1 rfl k
theorem rw_whole (T : Txt K mg) (h : WalkAt K H A ta ch op W) (k : Q (.ref A.l3) H) : FldR K "whole" (.ref A.w) H Q := by
  obtain ⟨dx, lm, sa, e1, e2, e3⟩ := h.ob
  exact f_Walk_whole T e1 rfl k
theorem rw_plays (T : Txt K mg) (h : WalkAt K H A ta ch op W) (k : Q (.ref A.l4) H) : FldR K "plays" (.ref A.w) H Q := by
  obtain ⟨dx, lm, sa, e1, e2, e3⟩ := h.ob
  exact f_Walk_plays T e1 rfl k
theorem rw_stalls (T : Txt K mg) (h : WalkAt K H A ta ch op W) (k : Q (.ref A.l5) H) : FldR K "stalls" (.ref A.w) H Q := by
  obtain ⟨dx, lm, sa, e1, e2, e3⟩ := h.ob
  exact f_Walk_stalls T e1 rfl k
theorem rw_kept (T : Txt K mg) (h : WalkAt K H A ta ch op W) (k : Q (.ref A.l6) H) : FldR K "kept" (.ref A.w) H Q := by
  obtain ⟨dx, lm, sa, e1, e2, e3⟩ := h.ob
  exact f_Walk_kept T e1 rfl k
theorem rw_limits (T : Txt K mg) (h : WalkAt K H A ta ch op W) (k : ∀ lm, SqT K H lm [.int op.b, .int op.a, .int op.m] → Q (.ref lm) H) : FldR K "limits" (.ref A.w) H Q := by
  obtain ⟨dx, lm, sa, e1, e2, e3⟩ := h.ob
  exact f_Walk_limits T e1 rfl (k lm e2)
theorem rw_stand_here (T : Txt K mg) (h : WalkAt K H A ta ch op W) (k : ∀ sa, SqT K H sa (sdV W.s) → Q (.ref sa) H) : FldR K "stand_here" (.ref A.w) H Q := by
  obtain ⟨dx, lm, sa, e1, e2, e3⟩ := h.ob
  exact f_Walk_stand_here T e1 rfl (k sa e3)
theorem rw_meth {m : Str} {sp : Sp} {dvs : List V} {E : XK} {tt : TA} (h : WalkAt K H A ta ch op W) (hn : kWalk.contains m = false) (k : tt σ H fun vs H2 => sp (.ref A.w :: (vs ++ dvs)) H2 Q E) : MethR (He.ga K "Walk") m sp dvs E tt σ (.ref A.w) H Q := by
  obtain ⟨dx, lm, sa, e1, e2, e3⟩ := h.ob
  exact methR e1 hn k
/-- the object written anew -/
theorem WalkAt.obj {W' : Wk} {dx lm sa : Addr} (h : WalkAt K H A ta ch op W) (e1 : H A.w = some (.ins (He.ga K "Walk") dx (kWalk.zip (wkV A ta ch lm sa op W)))) {sa' : Addr} (e2 : SqT K H lm [.int op.b, .int op.a, .int op.m]) (e3 : SqT K H sa' (sdV W'.s))
    (r1 : W'.r = W.r) (r2 : W'.g = W.g) (r3 : W'.f = W.f) (r4 : W'.p = W.p) (r5 : W'.st = W.st) (r6 : W'.k = W.k) :
    Go A.all H (upd H A.w (.ins (He.ga K "Walk") dx (kWalk.zip (wkV A ta ch lm sa' op W')))) ∧ WalkAt K (upd H A.w (.ins (He.ga K "Walk") dx (kWalk.zip (wkV A ta ch lm sa' op W')))) A ta ch op W' := by
  have g : Go [A.w] H (upd H A.w (.ins (He.ga K "Walk") dx (kWalk.zip (wkV A ta ch lm sa' op W')))) := Go.mut (by simp) e1 fix_walk
  have ne : ∀ {i : Nat} {a : Addr}, A.all[i]? = some a → i ≠ 0 → a ≠ A.w := fun e n => nd_ne h.nd e (j := 0) rfl n
  obtain ⟨ps, p1, p2⟩ := h.h5
  refine ⟨g.mono fun a ha => by rw [List.mem_singleton.mp ha]; exact List.mem_cons_self, ⟨⟨dx, lm, sa', upd_same, g.tup e2, g.tup e3⟩, ?_, ?_, ?_, ?_, ⟨ps, ?_, ?_⟩, ?_, h.nd⟩⟩
  · rw [upd_ne (ne (i := 1) rfl (by decide)), r1]; exact h.h1
  · rw [upd_ne (ne (i := 2) rfl (by decide)), r2]; exact h.h2
  · rw [upd_ne (ne (i := 3) rfl (by decide)), r3]; exact h.h3
  · rw [upd_ne (ne (i := 4) rfl (by decide)), r4]; exact h.h4
  · rw [upd_ne (ne (i := 5) rfl (by decide))]; exact p1
  · rw [r5]; exact p2.go g
  · rw [upd_ne (ne (i := 6) rfl (by decide)), r6]; exact h.h6
theorem ws_stand {s' : Sd} {p : Addr} (T : Txt K mg) (h : WalkAt K H A ta ch op W) (hp : SqT K H p (sdV s')) (k : ∀ H', Go A.all H H' → WalkAt K H' A ta ch op { W with s := s' } → q H') : SetR K "stand_here" (.ref A.w) (.ref p) H q := by
  obtain ⟨dx, lm, sa, e1, e2, e3⟩ := h.ob
  have z := h.obj (W' := { W with s := s' }) (sa' := p) e1 e2 hp rfl rfl rfl rfl rfl rfl
  exact s_Walk_stand_here T e1 rfl (k _ z.1 z.2)
theorem ws_rate {v : V} (T : Txt K mg) (h : WalkAt K H A ta ch op W) (k : ∀ H', Go A.all H H' → WalkAt K H' A ta ch op { W with rl := v } → q H') : SetR K "rate_last" (.ref A.w) v H q := by
  obtain ⟨dx, lm, sa, e1, e2, e3⟩ := h.ob
  have z := h.obj (W' := { W with rl := v }) (sa' := sa) e1 e2 e3 rfl rfl rfl rfl rfl rfl
  exact s_Walk_rate_last T e1 rfl (k _ z.1 z.2)
theorem ws_speed {v : V} (T : Txt K mg) (h : WalkAt K H A ta ch op W) (k : ∀ H', Go A.all H H' → WalkAt K H' A ta ch op { W with sl := v } → q H') : SetR K "speed_last" (.ref A.w) v H q := by
  obtain ⟨dx, lm, sa, e1, e2, e3⟩ := h.ob
  have z := h.obj (W' := { W with sl := v }) (sa' := sa) e1 e2 e3 rfl rfl rfl rfl rfl rfl
  exact s_Walk_speed_last T e1 rfl (k _ z.1 z.2)
theorem ws_beat {te : TE} {y : Int} (T : Txt K mg) (h : WalkAt K H A ta ch op W) (ht : ∀ q : VK, q (.int y) H → te σ H q) (k : ∀ H', Go A.all H H' → WalkAt K H' A ta ch op { W with b := W.b + y } → D.nx σ H') :
    ∃ a' C' dx fs v, V.ref A.w = .ref a' ∧ H a' = some (.ins C' dx fs) ∧ Cls K C' ∧ NoAttr K C' "beat_here" ∧ fs.lookup ("beat_here" : Str) = some v ∧ te σ H fun y H2 => rAdd v y H2 fun z H3 => ∃ dx' fs', H3 a' = some (.ins C' dx' fs') ∧ fs'.length < 1000 ∧ D.nx σ (upd H3 a' (.ins C' dx' (putF "beat_here" z fs'))) := by
  obtain ⟨dx, lm, sa, e1, e2, e3⟩ := h.ob
  have z := h.obj (W' := { W with b := W.b + y }) (sa' := sa) e1 e2 e3 rfl rfl rfl rfl rfl rfl
  exact augR (c_Walk T) (na_Walk_beat_here T) kWalk_nd (i := 6) (by rfl) e1 rfl (Nat.le_of_ble_eq_true rfl) ht (k _ z.1 z.2)
theorem wa_r {x : Int} (h : WalkAt K H A ta ch op W) (hl : W.r.length < sizeLine) (k : ∀ H', Go A.all H H' → WalkAt K H' A ta ch op { W with r := W.r ++ [x] } → Q .non H') : rAppend (.ref A.l1) [.int x] H Q := by
  have g : Go [A.l1] H (upd H A.l1 (.lst (W.r.map V.int ++ [.int x]))) := Go.mut (by simp) h.h1 rfl
  have ne : ∀ {j : Nat} {a : Addr}, A.all[j]? = some a → j ≠ 1 → a ≠ A.l1 := fun e n => nd_ne h.nd e (j := 1) rfl n
  obtain ⟨ps, p1, p2⟩ := h.h5
  obtain ⟨dx, lm, sa, e1, e2, e3⟩ := h.ob
  refine c_app h.h1 (by rw [List.length_map]; exact hl) (k _ (g.mono fun a ha => by rw [List.mem_singleton.mp ha]; exact List.mem_of_getElem? (l := A.all) (i := 1) rfl) ⟨⟨dx, lm, sa, ?_, g.tup e2, g.tup e3⟩, (by rw [List.map_append]; exact upd_same), (by rw [upd_ne (ne (j := 2) rfl (by decide))]; exact h.h2), (by rw [upd_ne (ne (j := 3) rfl (by decide))]; exact h.h3), (by rw [upd_ne (ne (j := 4) rfl (by decide))]; exact h.h4), ⟨ps, by rw [upd_ne (ne (j := 5) rfl (by decide))]; exact p1, p2.go g⟩, (by rw [upd_ne (ne (j := 6) rfl (by decide))]; exact h.h6), h.nd⟩)
  rw [upd_ne (ne (j := 0) rfl (by decide))]
  exact e1
theorem wa_g {x : Int} (h : WalkAt K H A ta ch op W) (hl : W.g.length < sizeLine) (k : ∀ H', Go A.all H H' → WalkAt K H' A ta ch op { W with g := W.g ++ [x] } → Q .non H') : rAppend (.ref A.l2) [.int x] H Q := by
  have g : Go [A.l2] H (upd H A.l2 (.lst (W.g.map V.int ++ [.int x]))) := Go.mut (by simp) h.h2 rfl
  have ne : ∀ {j : Nat} {a : Addr}, A.all[j]? = some a → j ≠ 2 → a ≠ A.l2 := fun e n => nd_ne h.nd e (j := 2) rfl n
  obtain ⟨ps, p1, p2⟩ := h.h5
  obtain ⟨dx, lm, sa, e1, e2, e3⟩ := h.ob
  refine c_app h.h2 (by rw [List.length_map]; exact hl) (k _ (g.mono fun a ha => by rw [List.mem_singleton.mp ha]; exact List.mem_of_getElem? (l := A.all) (i := 2) rfl) ⟨⟨dx, lm, sa, ?_, g.tup e2, g.tup e3⟩, (by rw [upd_ne (ne (j := 1) rfl (by decide))]; exact h.h1), (by rw [List.map_append]; exact upd_same), (by rw [upd_ne (ne (j := 3) rfl (by decide))]; exact h.h3), (by rw [upd_ne (ne (j := 4) rfl (by decide))]; exact h.h4), ⟨ps, by rw [upd_ne (ne (j := 5) rfl (by decide))]; exact p1, p2.go g⟩, (by rw [upd_ne (ne (j := 6) rfl (by decide))]; exact h.h6), h.nd⟩)
  rw [upd_ne (ne (j := 0) rfl (by decide))]
  exact e1
theorem wa_f {x : Int} (h : WalkAt K H A ta ch op W) (hl : W.f.length < sizeLine) (k : ∀ H', Go A.all H H' → WalkAt K H' A ta ch op { W with f := W.f ++ [x] } → Q .non H') : rAppend (.ref A.l3) [.int x] H Q := by
  have g : Go [A.l3] H (upd H A.l3 (.lst (W.f.map V.int ++ [.int x]))) := Go.mut (by simp) h.h3 rfl
  have ne : ∀ {j : Nat} {a : Addr}, A.all[j]? = some a → j ≠ 3 → a ≠ A.l3 := fun e n => nd_ne h.nd e (j := 3) rfl n
  obtain ⟨ps, p1, p2⟩ := h.h5
  obtain ⟨dx, lm, sa, e1, e2, e3⟩ := h.ob
  refine c_app h.h3 (by rw [List.length_map]; exact hl) (k _ (g.mono fun a ha => by rw [List.mem_singleton.mp ha]; exact List.mem_of_getElem? (l := A.all) (i := 3) rfl) ⟨⟨dx, lm, sa, ?_, g.tup e2, g.tup e3⟩, (by rw [upd_ne (ne (j := 1) rfl (by decide))]; exact h.h1), (by rw [upd_ne (ne (j := 2) rfl (by decide))]; exact h.h2), (by rw [List.map_append]; exact upd_same), (by rw [upd_ne (ne (j := 4) rfl (by decide))]; exact h.h4), ⟨ps, by rw [upd_ne (ne (j := 5) rfl (by decide))]; exact p1, p2.go g⟩, (by rw [upd_ne (ne (j := 6) rfl (by decide))]; exact h.h6), h.nd⟩)
  rw [upd_ne (ne (j := 0) rfl (by decide))]
  exact e1
theorem wa_p {x : Int} (h : WalkAt K H A ta ch op W) (hl : W.p.length < sizeLine) (k : ∀ H', Go A.all H H' → WalkAt K H' A ta ch op { W with p := W.p ++ [x] } → Q .non H') : rAppend (.ref A.l4) [.int x] H Q := by
  have g : Go [A.l4] H (upd H A.l4 (.lst (W.p.map V.int ++ [.int x]))) := Go.mut (by simp) h.h4 rfl
  have ne : ∀ {j : Nat} {a : Addr}, A.all[j]? = some a → j ≠ 4 → a ≠ A.l4 := fun e n => nd_ne h.nd e (j := 4) rfl n
  obtain ⟨ps, p1, p2⟩ := h.h5
  obtain ⟨dx, lm, sa, e1, e2, e3⟩ := h.ob
  refine c_app h.h4 (by rw [List.length_map]; exact hl) (k _ (g.mono fun a ha => by rw [List.mem_singleton.mp ha]; exact List.mem_of_getElem? (l := A.all) (i := 4) rfl) ⟨⟨dx, lm, sa, ?_, g.tup e2, g.tup e3⟩, (by rw [upd_ne (ne (j := 1) rfl (by decide))]; exact h.h1), (by rw [upd_ne (ne (j := 2) rfl (by decide))]; exact h.h2), (by rw [upd_ne (ne (j := 3) rfl (by decide))]; exact h.h3), (by rw [List.map_append]; exact upd_same), ⟨ps, by rw [upd_ne (ne (j := 5) rfl (by decide))]; exact p1, p2.go g⟩, (by rw [upd_ne (ne (j := 6) rfl (by decide))]; exact h.h6), h.nd⟩)
  rw [upd_ne (ne (j := 0) rfl (by decide))]
  exact e1
theorem wa_k {x : Int} (h : WalkAt K H A ta ch op W) (hl : W.k.length < sizeLine) (k : ∀ H', Go A.all H H' → WalkAt K H' A ta ch op { W with k := W.k ++ [x] } → Q .non H') : rAppend (.ref A.l6) [.int x] H Q := by
  have g : Go [A.l6] H (upd H A.l6 (.lst (W.k.map V.int ++ [.int x]))) := Go.mut (by simp) h.h6 rfl
  have ne : ∀ {j : Nat} {a : Addr}, A.all[j]? = some a → j ≠ 6 → a ≠ A.l6 := fun e n => nd_ne h.nd e (j := 6) rfl n
  obtain ⟨ps, p1, p2⟩ := h.h5
  obtain ⟨dx, lm, sa, e1, e2, e3⟩ := h.ob
  refine c_app h.h6 (by rw [List.length_map]; exact hl) (k _ (g.mono fun a ha => by rw [List.mem_singleton.mp ha]; exact List.mem_of_getElem? (l := A.all) (i := 6) rfl) ⟨⟨dx, lm, sa, ?_, g.tup e2, g.tup e3⟩, (by rw [upd_ne (ne (j := 1) rfl (by decide))]; exact h.h1), (by rw [upd_ne (ne (j := 2) rfl (by decide))]; exact h.h2), (by rw [upd_ne (ne (j := 3) rfl (by decide))]; exact h.h3), (by rw [upd_ne (ne (j := 4) rfl (by decide))]; exact h.h4), ⟨ps, by rw [upd_ne (ne (j := 5) rfl (by decide))]; exact p1, p2.go g⟩, (by rw [List.map_append]; exact upd_same), h.nd⟩)
  rw [upd_ne (ne (j := 0) rfl (by decide))]
  exact e1
theorem wa_st {x y : Int} {p : Addr} (h : WalkAt K H A ta ch op W) (hp : SqT K H p [.int x, .int y]) (hl : W.st.length < sizeLine) (k : ∀ H', Go A.all H H' → WalkAt K H' A ta ch op { W with st := W.st ++ [(x, y)] } → Q .non H') : rAppend (.ref A.l5) [.ref p] H Q := by
  obtain ⟨ps, p1, p2⟩ := h.h5
  have g : Go [A.l5] H (upd H A.l5 (.lst (ps.map V.ref ++ [.ref p]))) := Go.mut (by simp) p1 rfl
  have ne : ∀ {j : Nat} {a : Addr}, A.all[j]? = some a → j ≠ 5 → a ≠ A.l5 := fun e n => nd_ne h.nd e (j := 5) rfl n
  obtain ⟨dx, lm, sa, e1, e2, e3⟩ := h.ob
  have em : ps.map V.ref ++ [V.ref p] = (ps ++ [p]).map V.ref := by rw [List.map_append]; rfl
  rw [em] at g
  refine c_app p1 (by rw [List.length_map, p2.1]; exact hl) ?_
  rw [em]
  refine k _ (g.mono fun a ha => by rw [List.mem_singleton.mp ha]; exact List.mem_of_getElem? (l := A.all) (i := 5) rfl) ⟨⟨dx, lm, sa, ?_, g.tup e2, g.tup e3⟩, (by rw [upd_ne (ne (j := 1) rfl (by decide))]; exact h.h1), (by rw [upd_ne (ne (j := 2) rfl (by decide))]; exact h.h2), (by rw [upd_ne (ne (j := 3) rfl (by decide))]; exact h.h3), (by rw [upd_ne (ne (j := 4) rfl (by decide))]; exact h.h4), ⟨_, (by exact upd_same), ?_⟩, (by rw [upd_ne (ne (j := 6) rfl (by decide))]; exact h.h6), h.nd⟩
  · rw [upd_ne (ne (j := 0) rfl (by decide))]
    exact e1
  · refine ⟨by rw [List.length_append, List.length_append, p2.1]; rfl, fun i a b ea eb => ?_⟩
    by_cases hi : i < ps.length
    · rw [List.getElem?_append_left hi] at ea
      rw [List.getElem?_append_left (by rw [← p2.1]; exact hi)] at eb
      exact g.tup (p2.2 i a b ea eb)
    · rw [List.getElem?_append_right (by omega)] at ea
      rw [List.getElem?_append_right (by rw [← p2.1]; omega), ← p2.1] at eb
      have hz : i - ps.length = 0 := by
        have := (List.getElem?_eq_some_iff.mp ea).1
        simp at this
        omega
      rw [hz] at ea eb
      cases ea
      cases eb
      exact g.tup hp
theorem wp_st {q : Int × Int} {st : List (Int × Int)} (h : WalkAt K H A ta ch op W) (hst : W.st = st ++ [q]) (k : ∀ H' p, Go A.all H H' → WalkAt K H' A ta ch op { W with st := st } → SqT K H' p [.int q.1, .int q.2] → Q (.ref p) H') : rPop (.ref A.l5) [] H Q := by
  obtain ⟨ps, p1, p2⟩ := h.h5
  have ne : ∀ {j : Nat} {a : Addr}, A.all[j]? = some a → j ≠ 5 → a ≠ A.l5 := fun e n => nd_ne h.nd e (j := 5) rfl n
  obtain ⟨dx, lm, sa, e1, e2, e3⟩ := h.ob
  rw [hst] at p2
  have hl : ps.length = st.length + 1 := by rw [p2.1, List.length_append]; rfl
  have hlt : ps.length - 1 < ps.length := by omega
  have g : Go [A.l5] H (upd H A.l5 (.lst (ps.map V.ref).dropLast)) := Go.mut (by simp) p1 rfl
  have em : (ps.map V.ref).dropLast = ps.dropLast.map V.ref := by rw [List.map_dropLast]
  refine ⟨A.l5, ps.map V.ref, .ref ps[ps.length - 1], rfl, rfl, p1, ?_, k _ _ (g.mono fun a ha => by rw [List.mem_singleton.mp ha]; exact List.mem_of_getElem? (l := A.all) (i := 5) rfl) ⟨⟨dx, lm, sa, ?_, g.tup e2, g.tup e3⟩, (by rw [upd_ne (ne (j := 1) rfl (by decide))]; exact h.h1), (by rw [upd_ne (ne (j := 2) rfl (by decide))]; exact h.h2), (by rw [upd_ne (ne (j := 3) rfl (by decide))]; exact h.h3), (by rw [upd_ne (ne (j := 4) rfl (by decide))]; exact h.h4), ⟨ps.dropLast, by rw [em]; exact upd_same, ?_⟩, (by rw [upd_ne (ne (j := 6) rfl (by decide))]; exact h.h6), h.nd⟩ (g.tup (p2.2 (ps.length - 1) _ q ?_ ?_))⟩
  · rw [List.length_map, List.getElem?_map, List.getElem?_eq_getElem hlt]
    rfl
  · rw [upd_ne (ne (j := 0) rfl (by decide))]
    exact e1
  · refine ⟨by rw [List.length_dropLast]; show ps.length - 1 = st.length; omega, fun i a b ea eb => g.tup (p2.2 i a b ?_ ?_)⟩
    · have hi : i < st.length := (List.getElem?_eq_some_iff.mp eb).1
      rw [List.getElem?_dropLast, if_pos (by omega)] at ea
      exact ea
    · rw [List.getElem?_append_left (List.getElem?_eq_some_iff.mp eb).1]
      exact eb
  · exact List.getElem?_eq_getElem hlt
  · rw [hl, Nat.add_sub_cancel, List.getElem?_append_right (Nat.le_refl _), Nat.sub_self]
    rfl
end
end Rp
end
section
set_option Elab.async false
set_option linter.all false
set_option maxRecDepth 100000
set_option maxHeartbeats 4000000
namespace Rp
open PySem PySem.Spec PyProof.Rows L2
local macro_rules | `(tactic| walk_at "rd1") => `(tactic| with_reducible first
  | refine c_seq ?_ | refine c_asg ?_ | refine c_drop ?_ | refine c_ret ?_ | refine c_ifS ?_ | refine c_brk ?_ | refine c_name ?_
  | refine c_gcons ?_ | refine c_gnil ?_ | refine c_var (by with_unfolding_all rfl) ?_ | refine c_op ?_ | refine c_un ?_ | refine c_c ?_
  | refine c_I0 ?_ | refine c_U ?_ | refine c_ip ?_ | refine c_eqI ?_ | refine c_neI ?_ | refine c_test ?_ | refine c_tB ?_
  | refine c_not ?_ | refine c_and ?_ | refine c_or ?_ | refine c_andV ?_ | refine c_orV ?_ | refine c_notV ?_ | refine c_if ?_
  | refine c_cons ?_ | refine c_nil ?_ | refine c_tupN ?_ | refine c_lstN ?_ | refine c_CB ?_ | refine c_call ?_ | refine c_meth ?_ | refine c_fld ?_ | refine c_sfld ?_ | refine c_gfld ?_
  | refine c_aug (by with_unfolding_all rfl) ?_ | refine c_fldaug ?_ | refine c_sl ?_ | refine c_noPart ?_ | refine c_part ?_ | refine c_callN ?_ | refine c_bm ?_ | refine c_bm0 ?_ | refine c_make ?_ | refine c_makeK ?_ | refine c_asg2 ?_ | refine c_asg3 ?_ | refine c_itT ?_ | refine c_itN ?_ | refine c_itNT ?_ | refine c_itF ?_ | refine c_chain ?_ | refine c_next ?_ | refine ⟨_, (rfl : V.bl _ = V.bl _), ?_⟩ | refine ⟨_, (rfl : V.int _ = V.int _), ?_⟩)
local macro_rules | `(tactic| walk_at "rs1") => `(tactic| with_reducible first
  | refine c_seq ?_ | refine c_asg ?_ | refine c_drop ?_ | refine c_ret ?_ | refine c_brk ?_ | refine c_name ?_
  | refine c_gcons ?_ | refine c_gnil ?_ | refine c_var (by with_unfolding_all rfl) ?_ | refine c_op ?_ | refine c_un ?_ | refine c_c ?_
  | refine c_I0 ?_ | refine c_U ?_ | refine c_ip ?_ | refine c_eqI ?_ | refine c_neI ?_ | refine c_test ?_ | refine c_tB ?_
  | refine c_not ?_ | refine c_and ?_ | refine c_or ?_ | refine c_andV ?_ | refine c_orV ?_ | refine c_notV ?_ | refine c_if ?_
  | refine c_cons ?_ | refine c_nil ?_ | refine c_tupN ?_ | refine c_lstN ?_ | refine c_CB ?_ | refine c_call ?_ | refine c_meth ?_ | refine c_fld ?_ | refine c_sfld ?_ | refine c_gfld ?_
  | refine c_aug (by with_unfolding_all rfl) ?_ | refine c_fldaug ?_ | refine c_sl ?_ | refine c_noPart ?_ | refine c_part ?_ | refine c_callN ?_ | refine c_bm ?_ | refine c_bm0 ?_ | refine c_make ?_ | refine c_makeK ?_ | refine c_asg2 ?_ | refine c_asg3 ?_ | refine c_itT ?_ | refine c_itN ?_ | refine c_itNT ?_ | refine c_itF ?_ | refine c_chain ?_ | refine c_next ?_ | refine ⟨_, (rfl : V.bl _ = V.bl _), ?_⟩ | refine ⟨_, (rfl : V.int _ = V.int _), ?_⟩)
local macro_rules | `(tactic| walk_at "rd") => `(tactic| repeat walk_at "rd1")
local macro_rules | `(tactic| walk_at "rs") => `(tactic| repeat walk_at "rs1")

/-! ### pure -/
def wkChoose (t : Tk) (plan : List Int) (op : Op) (W : Wk) : Wk :=
  if asksB t op.m W.s = true then { W with s := chosenS op.w W.s (plan.getD W.s.n 0), rl := .int (plan.getD W.s.n 0), r := W.r ++ [plan.getD W.s.n 0], g := W.g ++ [W.b] } else W
def stNext (s s' : Sd) (b : Int) (st : List (Int × Int)) : List (Int × Int) :=
  if s.p < s'.p then st else if s'.o = 2 then (if s.o = 1 then st ++ [(b, 1)] else st.dropLast ++ [((st.getLastD (0, 0)).1, (st.getLastD (0, 0)).2 + 1)]) else st
/-- all but what the last fetch's speed is -/
def wkStep (t : Tk) (op : Op) (v : Int) (sl : V) (W : Wk) : Wk :=
  let s' := beatS t W.s v op.b op.a op.m
  { s := s', b := W.b + 1, rl := W.rl, sl := sl, r := W.r, g := W.g, f := if W.s.n < s'.n then W.f ++ [W.b + 1] else W.f, p := if W.s.p < s'.p then W.p ++ [W.b] else W.p, st := stNext W.s s' W.b W.st, k := W.k ++ [s'.k] }
/-- what the walk over the code asks -/
structure WkOk (t : Tk) (R : Nat) (op : Op) (plan : List Int) (W : Wk) : Prop where
  s : SdOk t R W.s
  g : W.s.c ≠ -1 → W.g ≠ []
  st : W.s.o = 2 → W.st ≠ []
  hi : W.s.o = 0 → ∀ v, (beatS t W.s v op.b op.a op.m).o = 2 → W.s.p < (beatS t W.s v op.b op.a op.m).p
  rl : W.r.length ≤ 100 ∧ W.g.length ≤ 100 ∧ W.f.length ≤ 100 ∧ W.p.length ≤ 1000
  kl : W.st.length ≤ W.k.length ∧ W.k.length ≤ 100000
  pl : plan.length = t.ls.length
  pr : ∀ z ∈ plan, 0 ≤ z ∧ z < R
section
variable {P : Program} {w : World} {K : PySem.W.Frag} {mg : Str → Option Value} {base : Heap}
/-! ### Walk -/
def sp_Walk_is_at_end (K : PySem.W.Frag) : Sp := fun vs H Q E => ∃ A ta ch op W t R, vs = [.ref A.w] ∧ WalkAt K H A ta ch op W ∧ TalkAt K H ta t ∧ TkOk t R ∧ ∀ H', Go [] H H' → Q (.bl (decide (W.s.p = t.ls.sum))) H'
theorem ok_Walk_is_at_end (T : Txt K mg) : Has P w K mg base (3 + 1) (He.ma K (He.ga K "Walk") "is_at_end") ["self"] [] (sp_Walk_is_at_end K) := by
  refine has_of (fd_Walk_is_at_end T) sc_Walk_is_at_end (fun _ _ _ _ _ _ us hl => match us, hl with | [_], _ => rfl) (fun vs H Q E h => ?_) fun cdv A outer s H vs Q E hr h => ⟨_, (pss_one (ps_ret (pe_callH (ok_is_over T) (hr.mono (by decide)) (by rfl) (g_is_over T) (pa_cons (pe_fld (pv 0) rfl) (pa_cons (pe_fld (pv 0) rfl) pa_nil))))), ?_⟩
  · obtain ⟨A, ta, ch, op, W, t, R, rfl, _⟩ := h
    rfl
  obtain ⟨A, ta, ch, op, W, t, R, rfl, hw, ht, ok, hq⟩ := h
  walk_at "rd"
  refine rw_talk_walked T hw ?_
  walk_at "rd"
  refine rw_stand_here T hw fun sa hs => ?_
  walk_at "rd"
  exact ⟨ta, sa, t, R, W.s, rfl, ht, ok, hs, hq⟩
def sp_Walk_asks_here (K : PySem.W.Frag) : Sp := fun vs H Q E => ∃ A ta ch op W t, vs = [.ref A.w] ∧ WalkAt K H A ta ch op W ∧ TalkAt K H ta t ∧ ∀ H', Go [] H H' → Q (.bl (asksB t op.m W.s)) H'
theorem ok_Walk_asks_here (T : Txt K mg) : Has P w K mg base (1 + 1) (He.ma K (He.ga K "Walk") "asks_here") ["self"] [] (sp_Walk_asks_here K) := by
  refine has_of (fd_Walk_asks_here T) sc_Walk_asks_here (fun _ _ _ _ _ _ us hl => match us, hl with | [_], _ => rfl) (fun vs H Q E h => ?_) fun cdv A outer s H vs Q E hr h => ⟨_, (pss_cons (ps_asg (pe_fld (pv 0) rfl) (pg_star (i := 2) rfl (pgs_cons (pg_name (i := 1) sc_Walk_asks_here.nd rfl (Or.inl rfl)) (pgs_cons (pg_name (i := 2) sc_Walk_asks_here.nd rfl (Or.inl rfl)) (pgs_star (pg_name (i := 3) sc_Walk_asks_here.nd rfl (Or.inl rfl)) pgs_nil)))))
      (pss_cons (ps_if (PW.pt (pw_or (pt_cmpR op_ne (pv 2) (pe_gint (by rfl) (i_NONE T)) (nomark _)) (pw_or1 (pt_not (pt_val (pe_callH (ok_has_room T) (hr.mono (by decide)) (by rfl) (g_has_room T) (pa_cons (pe_fld (pv 0) rfl) (pa_cons (pe_fld (pv 0) rfl) (pa_cons (pe_ix ix_tup (pe_fld (pv 0) rfl) pe_int (fun _ _ => rfl)) pa_nil))))))))) (pss_one (ps_ret pe_bl)) pss_nil)
      (pss_one (ps_ret (pe_or (pe_cmpR op_isN (pe_fld (pv 0) rfl) pe_non (nomark _)) (pe_one (pe_cmpR op_le (pe_ix ix_tup (pe_fld (pv 0) rfl) (pv 1) (fun _ _ => rfl)) (pe_fld (pv 0) rfl) (nomark _)))))))), ?_⟩
  · obtain ⟨A, ta, ch, op, W, t, rfl, _⟩ := h
    rfl
  obtain ⟨A, ta, ch, op, W, t, rfl, hw, ht, hq⟩ := h
  walk_at "rd"
  refine rw_stand_here T hw fun sa hs => ?_
  refine c_sd2 hs fun p H1 g _ e => ?_
  have hw := hw.go0 g
  walk_at "rs"
  refine c_ifB (!asksB t op.m W.s) (fun QB k => ?_) fun H2 g2 => ?_
  · walk_at "rd"
    refine ifb (fun h1 => ?_) fun h1 => ?_
    · have h1 : ¬ W.s.c = -1 := by simpa using h1
      have e : asksB t op.m W.s = false := by simp [asksB, h1]
      rw [e] at k
      exact k _ Go.refl
    · have h1 : W.s.c = -1 := by simpa using h1
      walk_at "rd"
      refine rw_talk_walked T hw ?_
      walk_at "rd"
      refine rw_stand_here T hw fun sa hs => ?_
      walk_at "rd"
      refine rw_limits T hw fun lm hlm => ?_
      walk_at "rd"
      refine c_ixT hlm (i := 2) rfl ?_
      walk_at "rd"
      refine ⟨ta, sa, t, W.s, op.m, rfl, ht.go g, hs, fun H2 g2 => ?_⟩
      walk_at "rd"
      have e : asksB t op.m W.s = hasRoom t op.m W.s := by simp [asksB, h1]
      rw [← e]
      exact k _ g2
  have g := g.trans' g2
  have hw := hw.go0 g2
  cases hb : asksB t op.m W.s with
  | true =>
    rw [hb] at hq
    refine c_itF ?_
    walk_at "rd"
    refine rw_opening T hw ?_
    walk_at "rd"
    refine ⟨rfl, ?_⟩
    walk_at "rd"
    exact hq _ g
  | false =>
    rw [hb] at hq
    refine c_itT ?_
    walk_at "rd"
    exact hq _ g
def sp_Walk_choose_here (K : PySem.W.Frag) : Sp := fun vs H Q E => ∃ A ta ch op W t R plan, vs = [.ref A.w] ∧ WalkAt K H A ta ch op W ∧ TalkAt K H ta t ∧ TkOk t R ∧ WkOk t R op plan W ∧ H ch = some (.tup (plan.map V.int)) ∧
  ∀ H', Go A.all H H' → WalkAt K H' A ta ch op (wkChoose t plan op W) → Q .non H'
theorem asks_n {t : Tk} {m : Int} {s : Sd} (h : asksB t m s = true) : s.n < t.ls.length ∧ s.c = -1 ∧ s.k + t.l s.n ≤ m := by
  simp only [asksB, hasRoom, Bool.and_eq_true, decide_eq_true_eq] at h
  exact ⟨h.2.1, h.1, h.2.2⟩
theorem ok_Walk_choose_here (T : Txt K mg) : Has P w K mg base (3 + 1) (He.ma K (He.ga K "Walk") "choose_here") ["self"] [] (sp_Walk_choose_here K) := by
  refine has_of (fd_Walk_choose_here T) sc_Walk_choose_here (fun _ _ _ _ _ _ us hl => match us, hl with | [_], _ => rfl) (fun vs H Q E h => ?_) fun cdv A outer s H vs Q E hr h => ⟨_, (pss_one (ps_if (pt_val (pe_methH0 (ok_Walk_asks_here T) (c_Walk T) (m_Walk_asks_here T) (hr.mono (by decide)) (pv 0))) (pss_cons (ps_set (i := 1) sc_Walk_choose_here.nd rfl (Or.inl rfl) (pe_callH (ok_seen_at T) (hr.mono (by decide)) (by rfl) (g_seen_at T) (pa_cons (pe_fld (pv 0) rfl) (pa_cons (pe_fld (pv 0) rfl) (pa_cons (pe_fld (pv 0) rfl) pa_nil)))))
      (pss_cons (ps_fld (pv 0) (pe_callH (ok_rate_by T) (hr.mono (by decide)) (by rfl) (g_rate_by T) (pa_cons (pe_fld (pv 0) rfl) (pa_cons (pe_fld (pv 0) rfl) (pa_cons (pv 1) pa_nil)))) rfl)
      (pss_cons (ps_fld (pv 0) (pe_callNH (ok_chosen_w T) (hr.mono (by decide)) (by rfl) (g_chosen T) (pa_cons (pe_fld (pv 0) rfl) (pa_cons (pe_fld (pv 0) rfl) pa_nil)) (pk_cons (pe_fld (pv 0) rfl) pk_nil)) rfl)
      (pss_cons (ps_expr (pe_bm PySem.F.plainAttrs_list PySem.F.slot_list_append PySem.F.type_list_append mt_append (pe_fld (pv 0) rfl) (pa_cons (pe_fld (pv 0) rfl) pa_nil)))
      (pss_one (ps_expr (pe_bm PySem.F.plainAttrs_list PySem.F.slot_list_append PySem.F.type_list_append mt_append (pe_fld (pv 0) rfl) (pa_cons (pe_fld (pv 0) rfl) pa_nil)))))))) pss_nil)), ?_⟩
  · obtain ⟨A, ta, ch, op, W, t, R, plan, rfl, _⟩ := h
    rfl
  obtain ⟨A, ta, ch, op, W, t, R, plan, rfl, hw, ht, ok, wo, hp, hq⟩ := h
  walk_at "rd"
  refine rw_meth hw rfl ?_
  walk_at "rd"
  refine ⟨A, ta, ch, op, W, t, rfl, hw, ht, fun H1 g => ?_⟩
  walk_at "rd"
  have hw := hw.go0 g
  replace hp := g.fix _ _ hp rfl
  replace ht := ht.go g
  replace g := g.mono (S' := A.all) fun a z => by cases z
  refine ifb (fun h1 => ?_) fun h1 => ?_
  · obtain ⟨hn, hc, _⟩ := asks_n h1
    rw [wkChoose, if_pos h1] at hq
    walk_at "rd"
    refine rw_stand_here T hw fun sa hs => ?_
    walk_at "rd"
    refine rw_rate_last T hw ?_
    walk_at "rd"
    refine rw_speed_last T hw ?_
    walk_at "rd"
    refine ⟨sa, W.s, _, _, rfl, hs, fun H2 se g2 hse => ?_⟩
    replace hw := hw.go0 g2
    walk_at "rd"
    refine rw_talk_walked T hw ?_
    walk_at "rd"
    refine rw_chooser_asked T hw ?_
    walk_at "rd"
    refine ⟨ta, ch, se, t, R, plan, W.s.n, _, rfl, ht.go g2, ok, hse, wo.pr, by rw [wo.pl]; exact hn, .inl (g2.fix _ _ hp rfl), fun H3 g3 => ?_⟩
    replace hw := hw.go0 g3
    replace g := (g.trans0 g2).trans0 g3
    walk_at "rd"
    refine ws_rate T hw fun H4 g4 hw => ?_
    replace g := g.trans' g4
    walk_at "rd"
    refine rw_stand_here T hw fun sa hs => ?_
    walk_at "rd"
    refine rw_rate_last T hw ?_
    walk_at "rd"
    refine rw_waiting T hw ?_
    walk_at "rd"
    refine ⟨rfl, rfl, sa, W.s, _, _, rfl, hs, fun H5 p g5 hs5 => ?_⟩
    replace hw := hw.go0 g5
    replace g := g.trans0 g5
    walk_at "rd"
    refine ws_stand T hw hs5 fun H6 g6 hw => ?_
    replace g := g.trans' g6
    walk_at "rd"
    refine rw_rates T hw ?_
    walk_at "rd"
    refine bmL hw.h1 ?_
    walk_at "rd"
    refine rw_rate_last T hw ?_
    walk_at "rd"
    refine wa_r hw (Nat.lt_of_le_of_lt wo.rl.1 (by decide)) fun H7 g7 hw => ?_
    replace g := g.trans' g7
    walk_at "rd"
    refine rw_begun T hw ?_
    walk_at "rd"
    refine bmL hw.h2 ?_
    walk_at "rd"
    refine rw_beat_here T hw ?_
    walk_at "rd"
    refine wa_g hw (Nat.lt_of_le_of_lt wo.rl.2.1 (by decide)) fun H8 g8 hw => ?_
    exact hq _ (g.trans' g8) hw
  · rw [wkChoose, if_neg (by rw [h1]; exact Bool.false_ne_true)] at hq
    exact hq _ g hw
def sp_Walk_step_on (K : PySem.W.Frag) : Sp := fun vs H Q E => ∃ A v ta ch op W t R plan, vs = [.ref A.w, .int v] ∧ WalkAt K H A ta ch op W ∧ TalkAt K H ta t ∧ TkOk t R ∧ WkOk t R op plan W ∧
  ∀ H' sl, Go A.all H H' → WalkAt K H' A ta ch op (wkStep t op v sl W) → Q .non H'
theorem ok_Walk_step_on (T : Txt K mg) : Has P w K mg base (4 + 1) (He.ma K (He.ga K "Walk") "step_on") ["self", "speed"] [] (sp_Walk_step_on K) := by
  refine has_of (fd_Walk_step_on T) sc_Walk_step_on (fun _ _ _ _ _ _ us hl => match us, hl with | [_, _], _ => rfl) (fun vs H Q E h => ?_) fun cdv A outer s H vs Q E hr h => ⟨_, (pss_cons (ps_asg (pe_fld (pv 0) rfl) (pg_tup (n := 3) rfl (pgs_cons (pg_name (i := 2) sc_Walk_step_on.nd rfl (Or.inl rfl)) (pgs_cons (pg_name (i := 3) sc_Walk_step_on.nd rfl (Or.inl rfl)) (pgs_cons (pg_name (i := 4) sc_Walk_step_on.nd rfl (Or.inl rfl)) pgs_nil)))))
      (pss_cons (ps_set (i := 5) sc_Walk_step_on.nd rfl (Or.inl rfl) (pe_fld (pv 0) rfl))
      (pss_cons (ps_fld (pv 0) (pe_callH (ok_beat_on T) (hr.mono (by decide)) (by rfl) (g_beat_on T) (pa_cons (pe_fld (pv 0) rfl) (pa_cons (pv 5) (pa_cons (pv 1) (pa_cons (pv 2) (pa_cons (pv 3) (pa_cons (pv 4) pa_nil))))))) rfl)
      (pss_cons (ps_if (pt_cmpR op_gt (pe_ix ix_tup (pe_fld (pv 0) rfl) pe_int (fun _ _ => rfl)) (pe_ix ix_tup (pv 5) pe_int (fun _ _ => rfl)) (nomark _)) (pss_one (ps_expr (pe_bm PySem.F.plainAttrs_list PySem.F.slot_list_append PySem.F.type_list_append mt_append (pe_fld (pv 0) rfl) (pa_cons (pe_fld (pv 0) rfl) pa_nil)))) (pss_one (ps_if (pt_cmpR op_eq (pe_ix ix_tup (pe_fld (pv 0) rfl) pe_int (fun _ _ => rfl)) (pe_gint (by rfl) (i_STALLS T)) (nomark _)) (pss_cons (ps_if (pt_cmpR op_eq (pe_ix ix_tup (pv 5) pe_int (fun _ _ => rfl)) (pe_gint (by rfl) (i_PLAYS T)) (nomark _)) (pss_one (ps_expr (pe_bm PySem.F.plainAttrs_list PySem.F.slot_list_append PySem.F.type_list_append mt_append (pe_fld (pv 0) rfl) (pa_cons (pe_tup (pa_cons (pe_fld (pv 0) rfl) (pa_cons pe_int pa_nil))) pa_nil)))) pss_nil)
      (pss_cons (ps_asg (pe_bm0 PySem.F.plainAttrs_list PySem.F.slot_list_pop PySem.F.type_list_pop mt_pop (pe_fld (pv 0) rfl)) (pg_tup (n := 2) rfl (pgs_cons (pg_name (i := 6) sc_Walk_step_on.nd rfl (Or.inl rfl)) (pgs_cons (pg_name (i := 7) sc_Walk_step_on.nd rfl (Or.inl rfl)) pgs_nil))))
      (pss_one (ps_expr (pe_bm PySem.F.plainAttrs_list PySem.F.slot_list_append PySem.F.type_list_append mt_append (pe_fld (pv 0) rfl) (pa_cons (pe_tup (pa_cons (pv 6) (pa_cons (pe_op op_add (pv 7) pe_int) pa_nil))) pa_nil)))))) pss_nil)))
      (pss_cons (ps_fldaug (pv 0) pe_int in_add)
      (pss_cons (ps_expr (pe_bm PySem.F.plainAttrs_list PySem.F.slot_list_append PySem.F.type_list_append mt_append (pe_fld (pv 0) rfl) (pa_cons (pe_ix ix_tup (pe_fld (pv 0) rfl) pe_int (fun _ _ => rfl)) pa_nil)))
      (pss_one (ps_if (pt_cmpR op_gt (pe_ix ix_tup (pe_fld (pv 0) rfl) pe_int (fun _ _ => rfl)) (pe_ix ix_tup (pv 5) pe_int (fun _ _ => rfl)) (nomark _)) (pss_cons (ps_expr (pe_bm PySem.F.plainAttrs_list PySem.F.slot_list_append PySem.F.type_list_append mt_append (pe_fld (pv 0) rfl) (pa_cons (pe_fld (pv 0) rfl) pa_nil)))
      (pss_cons (ps_set (i := 8) sc_Walk_step_on.nd rfl (Or.inl rfl) (pe_ix ix_tup (pe_ix ix_tup (pe_fld (pe_fld (pv 0) rfl) rfl) (pe_ix ix_tup (pv 5) pe_int (fun _ _ => rfl)) (fun _ _ => rfl)) (pe_ix ix_tup (pv 5) pe_int (fun _ _ => rfl)) (fun _ _ => rfl)))
      (pss_one (ps_fld (pv 0) (pe_makeH (mk_Speed T) (ok_Speed_init T) (hr.mono (by decide)) (by rfl) (g_Speed T) (pa_cons (pv 8) (pa_cons (pe_op op_sub (pe_fld (pv 0) rfl) (pe_ix ix_list (pe_fld (pv 0) rfl) (pe_un un_neg pe_int) (fun _ _ => rfl))) pa_nil))) rfl)))) pss_nil)))))))), ?_⟩
  · obtain ⟨A, v, ta, ch, op, W, t, R, plan, rfl, _⟩ := h
    rfl
  obtain ⟨A, v, ta, ch, op, W, t, R, plan, rfl, hw, ht, ok, wo, hq⟩ := h
  have ht0 := ht
  walk_at "rd"
  refine rw_limits T hw fun lm hlm => ?_
  refine c_tupG hlm rfl ?_
  walk_at "rd"
  refine rw_stand_here T hw fun sa hs => ?_
  have hs0 := hs
  walk_at "rd"
  refine rw_talk_walked T hw ?_
  walk_at "rd"
  refine ⟨ta, sa, t, W.s, v, op.b, op.a, op.m, R, rfl, ht, hs, ok, wo.s, fun H1 sb g hs' => ?_⟩
  have hw := hw.go0 g
  replace ht := ht.go g
  replace hs := g.tup hs
  replace g := g.mono (S' := A.all) fun a z => by cases z
  generalize he : beatS t W.s v op.b op.a op.m = s' at hs'
  walk_at "rd"
  refine ws_stand T hw hs' fun H2 g2 hw => ?_
  replace g := g.trans' g2
  replace ht := ht.go g2
  replace hs := g2.tup hs
  with_reducible refine c_seqC (fun σ' H' => σ'[0]? = some (some (.ref A.w)) ∧ σ'[5]? = some (some (.ref sa)) ∧ σ'.length = 9 ∧ Go A.all H H' ∧ WalkAt K H' A ta ch op { W with s := s', p := if W.s.p < s'.p then W.p ++ [W.b] else W.p, st := stNext W.s s' W.b W.st }) (fun σ' H3 z => ?_) fun N hN => ?_
  · clear hw g ht hs hs' g2
    obtain ⟨s0, s5, sl, g, hw⟩ := z
    match σ', s0, s5, sl with
    | [a0, a1, a2, a3, a4, a5, a6, a7, a8], s0, s5, _ =>
    cases s0
    cases s5
    replace ht := ht0.go g
    replace hs := g.tup hs0
    walk_at "rd"
    refine ws_beat T hw (fun q hq => hq) fun H4 g4 hw => ?_
    replace g := g.trans' g4
    walk_at "rd"
    refine rw_kept T hw ?_
    walk_at "rd"
    refine bmL hw.h6 ?_
    walk_at "rd"
    refine rw_stand_here T hw fun sc hc => ?_
    walk_at "rd"
    refine c_ixT hc (i := 3) rfl ?_
    walk_at "rd"
    refine wa_k hw (Nat.lt_of_le_of_lt wo.kl.2 (by decide)) fun H5 g5 hw => ?_
    replace g := g.trans' g5
    replace ht := (ht.go g4).go g5
    replace hs := g5.tup (g4.tup hs)
    walk_at "rd"
    refine rw_stand_here T hw fun sc hc => ?_
    walk_at "rd"
    refine c_ixT hc (i := 0) rfl ?_
    walk_at "rd"
    refine c_ixT hs (i := 0) rfl ?_
    walk_at "rd"
    refine ifd (fun h1 => ?_) fun h1 => ?_
    · have h1 : W.s.n < s'.n := by
        have z : (W.s.n : Int) < (s'.n : Int) := h1
        omega
      have hc1 : W.s.c ≠ -1 := fun z => by
        rw [beatS, if_pos z] at he
        rw [← he] at h1
        exact absurd h1 (Nat.lt_irrefl _)
      obtain ⟨hc0, hcR, hn⟩ := wo.s.c.resolve_left hc1
      have hg := wo.g hc1
      walk_at "rd"
      refine rw_whole T hw ?_
      walk_at "rd"
      refine bmL hw.h3 ?_
      walk_at "rd"
      refine rw_beat_here T hw ?_
      walk_at "rd"
      refine wa_f hw (Nat.lt_of_le_of_lt wo.rl.2.2.1 (by decide)) fun H6 g6 hw => ?_
      replace g := g.trans' g6
      replace ht := ht.go g6
      replace hs := g6.tup hs
      walk_at "rd"
      refine rw_talk_walked T hw ?_
      walk_at "rd"
      refine r_sizes T ht fun z rs hz hrs => ?_
      obtain ⟨row, hrow⟩ : ∃ row, t.zs[W.s.n]? = some row := ⟨_, List.getElem?_eq_getElem (by rw [ok.zl]; exact hn)⟩
      have hlen := ok.rl _ (List.mem_of_getElem? hrow)
      obtain ⟨r, hr2⟩ : ∃ r, rs[W.s.n]? = some r := ⟨_, List.getElem?_eq_getElem (by rw [hrs.1, ok.zl]; exact hn)⟩
      have hci : ((W.s.c.toNat : Nat) : Int) = W.s.c := Int.toNat_of_nonneg hc0
      have hcc : atI (row.map V.int) W.s.c = some (.int (row.getD W.s.c.toNat 0)) := by
        have z := atI_map (l := row) (i := W.s.c.toNat) (by omega)
        rw [hci] at z
        exact z
      walk_at "rd"
      refine c_ixT hs (i := 0) rfl ?_
      walk_at "rd"
      refine c_ixT hz (atI_ref hr2) ?_
      walk_at "rd"
      refine c_ixT hs (i := 1) rfl ?_
      walk_at "rd"
      refine c_ixT (hrs.2 _ _ _ hr2 hrow) hcc ?_
      walk_at "rd"
      refine rw_beat_here T hw ?_
      walk_at "rd"
      refine rw_begun T hw ?_
      walk_at "rd"
      refine c_ixL (sqL hw.h2) (v := .int (W.g.getLast hg)) ?_ ?_
      · have e1 : W.g.map V.int = W.g.dropLast.map V.int ++ [.int (W.g.getLast hg)] := by
          conv => lhs; rw [← List.dropLast_concat_getLast hg]
          rw [List.map_append]
          rfl
        show atI (W.g.map V.int) (-1) = _
        rw [e1]
        exact atI_last _ _
      walk_at "rd"
      intro x dx hx hdx hne
      refine ⟨x, dx, _, _, rfl, upd_same, fun H7 g7 => ⟨rfl, ?_⟩⟩
      have g8 := go_init hx hdx hne g7
      replace hw := hw.go0 g8
      replace g := g.trans0 g8
      walk_at "rd"
      refine ws_speed T hw fun H9 g9 hw => ?_
      refine hq _ (.ref x) (g.trans' g9) ?_
      simp only [wkStep, he, if_pos h1]
      exact hw
    · have h1 : ¬ W.s.n < s'.n := fun z => h1 (by
        show (W.s.n : Int) < (s'.n : Int)
        omega)
      walk_at "rd"
      refine hq _ W.sl g ?_
      simp only [wkStep, he, if_neg h1]
      exact hw
  · walk_at "rd"
    refine rw_stand_here T hw fun sc hc => ?_
    walk_at "rd"
    refine c_ixT hc (i := 4) rfl ?_
    walk_at "rd"
    refine c_ixT hs (i := 4) rfl ?_
    walk_at "rd"
    refine ifd (fun h1 => ?_) fun h1 => ?_
    · walk_at "rd"
      refine rw_plays T hw ?_
      walk_at "rd"
      refine bmL hw.h4 ?_
      walk_at "rd"
      refine rw_beat_here T hw ?_
      walk_at "rd"
      refine wa_p hw (Nat.lt_of_le_of_lt wo.rl.2.2.2 (by decide)) fun H3 g3 hw => ?_
      refine hN _ _ ⟨rfl, rfl, rfl, g.trans' g3, ?_⟩
      rw [if_pos h1, stNext, if_pos h1]
      exact hw
    · rw [if_neg h1, stNext, if_neg h1] at hN
      walk_at "rd"
      refine rw_stand_here T hw fun sc hc => ?_
      walk_at "rd"
      refine c_ixT hc (i := 5) rfl ?_
      walk_at "rd"
      refine ifd (fun h2 => ?_) fun h2 => ?_
      · rw [if_pos h2] at hN
        with_reducible refine c_seqC (fun σ' H' => σ'[0]? = some (some (.ref A.w)) ∧ σ'[5]? = some (some (.ref sa)) ∧ σ'.length = 9 ∧ Go A.all H H' ∧ ∃ q st1, WalkAt K H' A ta ch op { W with s := s', st := st1 ++ [q] } ∧ st1 ++ [(q.1, q.2 + 1)] = if W.s.o = 1 then W.st ++ [(W.b, 1)] else W.st.dropLast ++ [((W.st.getLastD (0, 0)).1, (W.st.getLastD (0, 0)).2 + 1)]) (fun σ' H3 z => ?_) fun N2 hN2 => ?_
        · obtain ⟨s0, s5, sl, g, q, st1, hw, e⟩ := z
          have hsl : st1.length ≤ W.st.length := by
            have e2 := congrArg List.length e
            by_cases ho : W.s.o = 1
            · rw [if_pos ho, List.length_append, List.length_append] at e2
              simp at e2
              omega
            · rw [if_neg ho, List.length_append, List.length_append, List.length_dropLast] at e2
              simp at e2
              omega
          rw [← e] at hN
          match σ', s0, s5, sl with
          | [a0, a1, a2, a3, a4, a5, a6, a7, a8], s0, s5, _ =>
          cases s0
          cases s5
          walk_at "rd"
          refine rw_stalls T hw ?_
          obtain ⟨ps, p1, p2⟩ := hw.h5
          refine bm0L p1 ?_
          refine wp_st hw rfl fun H4 p g4 hw hp => ?_
          replace g := g.trans' g4
          refine c_tupG hp rfl ?_
          walk_at "rd"
          refine rw_stalls T hw ?_
          obtain ⟨ps, p1, p2⟩ := hw.h5
          refine bmL p1 ?_
          walk_at "rd"
          refine newTup fun p2 H5 g5 _ e5 => ?_
          replace hw := hw.go0 g5
          replace g := g.trans0 g5
          walk_at "rd"
          refine wa_st hw (sqT e5) ?_ fun H6 g6 hw => ?_
          · exact Nat.lt_of_le_of_lt (Nat.le_trans hsl (Nat.le_trans wo.kl.1 wo.kl.2)) (by decide)
          · exact hN _ _ ⟨rfl, rfl, rfl, g.trans' g6, hw⟩
        · walk_at "rd"
          refine c_ixT hs (i := 5) rfl ?_
          walk_at "rd"
          refine ifd (fun h3 => ?_) fun h3 => ?_
          · walk_at "rd"
            refine rw_stalls T hw ?_
            obtain ⟨ps, p1, p2⟩ := hw.h5
            refine bmL p1 ?_
            walk_at "rd"
            refine rw_beat_here T hw ?_
            walk_at "rd"
            refine newTup fun p2 H5 g5 _ e5 => ?_
            replace hw := hw.go0 g5
            replace g := g.trans0 g5
            walk_at "rd"
            refine wa_st hw (sqT e5) (Nat.lt_of_le_of_lt (Nat.le_trans wo.kl.1 wo.kl.2) (by decide)) fun H6 g6 hw => ?_
            exact hN2 _ _ ⟨rfl, rfl, rfl, g.trans' g6, (W.b, 0), W.st, hw, by rw [if_pos h3]; rfl⟩
          · have h4 : W.s.o = 2 := by
              rcases wo.s.o with z | z | z
              · have z2 := wo.hi z v
                rw [he] at z2
                exact absurd (z2 h2) h1
              · exact absurd z h3
              · exact z
            have hst := wo.st h4
            walk_at "rd"
            refine hN2 _ _ ⟨rfl, rfl, rfl, g, W.st.getLastD (0, 0), W.st.dropLast, ?_, by rw [if_neg h3]⟩
            have e1 : W.st.dropLast ++ [W.st.getLastD (0, 0)] = W.st := by
              have e2 : W.st.getLastD (0, 0) = W.st.getLast hst := by
                rw [List.getLastD_eq_getLast?, List.getLast?_eq_some_getLast hst]
                rfl
              rw [e2]
              exact List.dropLast_concat_getLast hst
            rw [e1]
            exact hw
      · rw [if_neg h2] at hN
        walk_at "rd"
        exact hN _ _ ⟨rfl, rfl, rfl, g, hw⟩
end
end Rp
end
section
set_option Elab.async false
set_option linter.all false
set_option maxRecDepth 100000
set_option maxHeartbeats 4000000
namespace Rp
open PySem PySem.Spec PyProof.Rows L2
local macro_rules | `(tactic| walk_at "rd1") => `(tactic| with_reducible first
  | refine c_seq ?_ | refine c_asg ?_ | refine c_drop ?_ | refine c_ret ?_ | refine c_ifS ?_ | refine c_brk ?_ | refine c_name ?_
  | refine c_gcons ?_ | refine c_gnil ?_ | refine c_var (by with_unfolding_all rfl) ?_ | refine c_op ?_ | refine c_un ?_ | refine c_c ?_
  | refine c_I0 ?_ | refine c_U ?_ | refine c_ip ?_ | refine c_eqI ?_ | refine c_neI ?_ | refine c_test ?_ | refine c_tB ?_
  | refine c_not ?_ | refine c_and ?_ | refine c_or ?_ | refine c_andV ?_ | refine c_orV ?_ | refine c_notV ?_ | refine c_if ?_
  | refine c_cons ?_ | refine c_nil ?_ | refine c_tupN ?_ | refine c_lstN ?_ | refine c_CB ?_ | refine c_call ?_ | refine c_meth ?_ | refine c_fld ?_ | refine c_sfld ?_ | refine c_gfld ?_
  | refine c_aug (by with_unfolding_all rfl) ?_ | refine c_fldaug ?_ | refine c_sl ?_ | refine c_noPart ?_ | refine c_part ?_ | refine c_callN ?_ | refine c_bm ?_ | refine c_bm0 ?_ | refine c_make ?_ | refine c_makeK ?_ | refine c_asg2 ?_ | refine c_asg3 ?_ | refine c_itT ?_ | refine c_itN ?_ | refine c_itNT ?_ | refine c_itF ?_ | refine c_chain ?_ | refine c_next ?_ | refine ⟨_, (rfl : V.bl _ = V.bl _), ?_⟩ | refine ⟨_, (rfl : V.int _ = V.int _), ?_⟩)
local macro_rules | `(tactic| walk_at "rs1") => `(tactic| with_reducible first
  | refine c_seq ?_ | refine c_asg ?_ | refine c_drop ?_ | refine c_ret ?_ | refine c_brk ?_ | refine c_name ?_
  | refine c_gcons ?_ | refine c_gnil ?_ | refine c_var (by with_unfolding_all rfl) ?_ | refine c_op ?_ | refine c_un ?_ | refine c_c ?_
  | refine c_I0 ?_ | refine c_U ?_ | refine c_ip ?_ | refine c_eqI ?_ | refine c_neI ?_ | refine c_test ?_ | refine c_tB ?_
  | refine c_not ?_ | refine c_and ?_ | refine c_or ?_ | refine c_andV ?_ | refine c_orV ?_ | refine c_notV ?_ | refine c_if ?_
  | refine c_cons ?_ | refine c_nil ?_ | refine c_tupN ?_ | refine c_lstN ?_ | refine c_CB ?_ | refine c_call ?_ | refine c_meth ?_ | refine c_fld ?_ | refine c_sfld ?_ | refine c_gfld ?_
  | refine c_aug (by with_unfolding_all rfl) ?_ | refine c_fldaug ?_ | refine c_sl ?_ | refine c_noPart ?_ | refine c_part ?_ | refine c_callN ?_ | refine c_bm ?_ | refine c_bm0 ?_ | refine c_make ?_ | refine c_makeK ?_ | refine c_asg2 ?_ | refine c_asg3 ?_ | refine c_itT ?_ | refine c_itN ?_ | refine c_itNT ?_ | refine c_itF ?_ | refine c_chain ?_ | refine c_next ?_ | refine ⟨_, (rfl : V.bl _ = V.bl _), ?_⟩ | refine ⟨_, (rfl : V.int _ = V.int _), ?_⟩)
local macro_rules | `(tactic| walk_at "rd") => `(tactic| repeat walk_at "rd1")
local macro_rules | `(tactic| walk_at "rs") => `(tactic| repeat walk_at "rs1")

def wk0 : Wk := ⟨sd0, 0, .non, .non, [], [], [], [], [], []⟩
section
variable {P : Program} {w : World} {K : PySem.W.Frag} {mg : Str → Option Value} {base : Heap}
theorem fix_walkI (i : Nat) (_ : i ≤ 15) {C dx : Addr} {vs : List V} : fixO (.ins C dx ((kWalk.take i).zip vs)) = false := by
  have h : ∀ ks : List Str, (∀ k ∈ ks, fixK.contains k = false) → ∀ vs : List V, (ks.zip vs).any (fun q => fixK.contains q.1) = false := by
    intro ks
    induction ks with
    | nil => intro _ vs; rfl
    | cons k ks ih =>
      intro hk vs
      cases vs with
      | nil => rfl
      | cons v vs =>
        rw [List.zip_cons_cons, List.any_cons, hk k List.mem_cons_self, ih (fun x hx => hk x (List.mem_cons_of_mem _ hx)) vs]
        rfl
  exact h _ (fun k hk => (show ∀ k ∈ kWalk, fixK.contains k = false by decide +kernel) k (List.mem_of_mem_take hk)) vs
theorem nw_talk_walked (T : Txt K mg) {H : Hp} {a dx : Addr} {vs : List V} {v : V} {q : Hp → Prop} (h : H a = some (.ins (He.ga K "Walk") dx ((kWalk.take 0).zip vs))) (hv : vs.length = 0) (k : ∀ H', Go [a] H H' → H' a = some (.ins (He.ga K "Walk") dx ((kWalk.take 1).zip (vs ++ [v]))) → q H') : SetR K "talk_walked" (.ref a) v H q :=
  n_Walk_talk_walked T h hv (k _ (Go.mut (by simp) h (fix_walkI 0 (by decide))) upd_same)
theorem nw_chooser_asked (T : Txt K mg) {H : Hp} {a dx : Addr} {vs : List V} {v : V} {q : Hp → Prop} (h : H a = some (.ins (He.ga K "Walk") dx ((kWalk.take 1).zip vs))) (hv : vs.length = 1) (k : ∀ H', Go [a] H H' → H' a = some (.ins (He.ga K "Walk") dx ((kWalk.take 2).zip (vs ++ [v]))) → q H') : SetR K "chooser_asked" (.ref a) v H q :=
  n_Walk_chooser_asked T h hv (k _ (Go.mut (by simp) h (fix_walkI 1 (by decide))) upd_same)
theorem nw_limits (T : Txt K mg) {H : Hp} {a dx : Addr} {vs : List V} {v : V} {q : Hp → Prop} (h : H a = some (.ins (He.ga K "Walk") dx ((kWalk.take 2).zip vs))) (hv : vs.length = 2) (k : ∀ H', Go [a] H H' → H' a = some (.ins (He.ga K "Walk") dx ((kWalk.take 3).zip (vs ++ [v]))) → q H') : SetR K "limits" (.ref a) v H q :=
  n_Walk_limits T h hv (k _ (Go.mut (by simp) h (fix_walkI 2 (by decide))) upd_same)
theorem nw_waiting (T : Txt K mg) {H : Hp} {a dx : Addr} {vs : List V} {v : V} {q : Hp → Prop} (h : H a = some (.ins (He.ga K "Walk") dx ((kWalk.take 3).zip vs))) (hv : vs.length = 3) (k : ∀ H', Go [a] H H' → H' a = some (.ins (He.ga K "Walk") dx ((kWalk.take 4).zip (vs ++ [v]))) → q H') : SetR K "waiting" (.ref a) v H q :=
  n_Walk_waiting T h hv (k _ (Go.mut (by simp) h (fix_walkI 3 (by decide))) upd_same)
theorem nw_opening (T : Txt K mg) {H : Hp} {a dx : Addr} {vs : List V} {v : V} {q : Hp → Prop} (h : H a = some (.ins (He.ga K "Walk") dx ((kWalk.take 4).zip vs))) (hv : vs.length = 4) (k : ∀ H', Go [a] H H' → H' a = some (.ins (He.ga K "Walk") dx ((kWalk.take 5).zip (vs ++ [v]))) → q H') : SetR K "opening" (.ref a) v H q :=
  n_Walk_opening T h hv (k _ (Go.mut (by simp) h (fix_walkI 4 (by decide))) upd_same)
theorem nw_stand_here (T : Txt K mg) {H : Hp} {a dx : Addr} {vs : List V} {v : V} {q : Hp → Prop} (h : H a = some (.ins (He.ga K "Walk") dx ((kWalk.take 5).zip vs))) (hv : vs.length = 5) (k : ∀ H', Go [a] H H' → H' a = some (.ins (He.ga K "Walk") dx ((kWalk.take 6).zip (vs ++ [v]))) → q H') : SetR K "stand_here" (.ref a) v H q :=
  n_Walk_stand_here T h hv (k _ (Go.mut (by simp) h (fix_walkI 5 (by decide))) upd_same)
theorem nw_beat_here (T : Txt K mg) {H : Hp} {a dx : Addr} {vs : List V} {v : V} {q : Hp → Prop} (h : H a = some (.ins (He.ga K "Walk") dx ((kWalk.take 6).zip vs))) (hv : vs.length = 6) (k : ∀ H', Go [a] H H' → H' a = some (.ins (He.ga K "Walk") dx ((kWalk.take 7).zip (vs ++ [v]))) → q H') : SetR K "beat_here" (.ref a) v H q :=
  n_Walk_beat_here T h hv (k _ (Go.mut (by simp) h (fix_walkI 6 (by decide))) upd_same)
theorem nw_rate_last (T : Txt K mg) {H : Hp} {a dx : Addr} {vs : List V} {v : V} {q : Hp → Prop} (h : H a = some (.ins (He.ga K "Walk") dx ((kWalk.take 7).zip vs))) (hv : vs.length = 7) (k : ∀ H', Go [a] H H' → H' a = some (.ins (He.ga K "Walk") dx ((kWalk.take 8).zip (vs ++ [v]))) → q H') : SetR K "rate_last" (.ref a) v H q :=
  n_Walk_rate_last T h hv (k _ (Go.mut (by simp) h (fix_walkI 7 (by decide))) upd_same)
theorem nw_speed_last (T : Txt K mg) {H : Hp} {a dx : Addr} {vs : List V} {v : V} {q : Hp → Prop} (h : H a = some (.ins (He.ga K "Walk") dx ((kWalk.take 8).zip vs))) (hv : vs.length = 8) (k : ∀ H', Go [a] H H' → H' a = some (.ins (He.ga K "Walk") dx ((kWalk.take 9).zip (vs ++ [v]))) → q H') : SetR K "speed_last" (.ref a) v H q :=
  n_Walk_speed_last T h hv (k _ (Go.mut (by simp) h (fix_walkI 8 (by decide))) upd_same)
theorem nw_rates (T : Txt K mg) {H : Hp} {a dx : Addr} {vs : List V} {v : V} {q : Hp → Prop} (h : H a = some (.ins (He.ga K "Walk") dx ((kWalk.take 9).zip vs))) (hv : vs.length = 9) (k : ∀ H', Go [a] H H' → H' a = some (.ins (He.ga K "Walk") dx ((kWalk.take 10).zip (vs ++ [v]))) → q H') : SetR K "rates" (.ref a) v H q :=
  n_Walk_rates T h hv (k _ (Go.mut (by simp) h (fix_walkI 9 (by decide))) upd_same)
theorem nw_begun (T : Txt K mg) {H : Hp} {a dx : Addr} {vs : List V} {v : V} {q : Hp → Prop} (h : H a = some (.ins (He.ga K "Walk") dx ((kWalk.take 10).zip vs))) (hv : vs.length = 10) (k : ∀ H', Go [a] H H' → H' a = some (.ins (He.ga K "Walk") dx ((kWalk.take 11).zip (vs ++ [v]))) → q H') : SetR K "begun" (.ref a) v H q :=
  n_Walk_begun T h hv (k _ (Go.mut (by simp) h (fix_walkI 10 (by decide))) upd_same)
theorem nw_whole (T : Txt K mg) {H : Hp} {a dx : Addr} {vs : List V} {v : V} {q : Hp → Prop} (h : H a = some (.ins (He.ga K "Walk") dx ((kWalk.take 11).zip vs))) (hv : vs.length = 11) (k : ∀ H', Go [a] H H' → H' a = some (.ins (He.ga K "Walk") dx ((kWalk.take 12).zip (vs ++ [v]))) → q H') : SetR K "whole" (.ref a) v H q :=
  n_Walk_whole T h hv (k _ (Go.mut (by simp) h (fix_walkI 11 (by decide))) upd_same)
theorem nw_plays (T : Txt K mg) {H : Hp} {a dx : Addr} {vs : List V} {v : V} {q : Hp → Prop} (h : H a = some (.ins (He.ga K "Walk") dx ((kWalk.take 12).zip vs))) (hv : vs.length = 12) (k : ∀ H', Go [a] H H' → H' a = some (.ins (He.ga K "Walk") dx ((kWalk.take 13).zip (vs ++ [v]))) → q H') : SetR K "plays" (.ref a) v H q :=
  n_Walk_plays T h hv (k _ (Go.mut (by simp) h (fix_walkI 12 (by decide))) upd_same)
theorem nw_stalls (T : Txt K mg) {H : Hp} {a dx : Addr} {vs : List V} {v : V} {q : Hp → Prop} (h : H a = some (.ins (He.ga K "Walk") dx ((kWalk.take 13).zip vs))) (hv : vs.length = 13) (k : ∀ H', Go [a] H H' → H' a = some (.ins (He.ga K "Walk") dx ((kWalk.take 14).zip (vs ++ [v]))) → q H') : SetR K "stalls" (.ref a) v H q :=
  n_Walk_stalls T h hv (k _ (Go.mut (by simp) h (fix_walkI 13 (by decide))) upd_same)
theorem nw_kept (T : Txt K mg) {H : Hp} {a dx : Addr} {vs : List V} {v : V} {q : Hp → Prop} (h : H a = some (.ins (He.ga K "Walk") dx ((kWalk.take 14).zip vs))) (hv : vs.length = 14) (k : ∀ H', Go [a] H H' → H' a = some (.ins (He.ga K "Walk") dx ((kWalk.take 15).zip (vs ++ [v]))) → q H') : SetR K "kept" (.ref a) v H q :=
  n_Walk_kept T h hv (k _ (Go.mut (by simp) h (fix_walkI 14 (by decide))) upd_same)
def sp_Walk_init (K : PySem.W.Frag) : Sp := fun vs H Q E => ∃ x dx ta ch t op, vs = [.ref x, .ref ta, .ref ch, .int op.b, .int op.a, .int op.m, .int op.w, .non] ∧ H x = some (.ins (He.ga K "Walk") dx []) ∧ TalkAt K H ta t ∧ (∀ l ∈ t.ls, l ≤ op.m) ∧
  ∀ H' A, A.w = x → Go [x] H H' → (∀ l ∈ A.all, l = x ∨ H l = none) → WalkAt K H' A ta ch op wk0 → Q .non H'
theorem len_Walk_init : ∀ vs H Q E, sp_Walk_init K vs H Q E → vs.length = 8 := by
  intro vs H Q E h
  obtain ⟨x, dx, ta, ch, t, op, rfl, _⟩ := h
  rfl
theorem bd_Walk_init (T : Txt K mg) (cdv : Value) (A : Around) (outer : List Env) (s : Shared) (H : Hp) (vs : List V) (Q : VK) (E : XK) (hr : Room 2 (A.deeper (envOfC "Walk.__init__" (defScope s_Walk_init) s.heap.objs.size (He.ma K (He.ga K "Walk") "__init__") cdv))) (h : (sp_Walk_init K) vs H Q E) :
    ∃ t, PSs (cxOf CX0 P w K mg base ["self", "talk", "chooser", "begin", "again", "most", "wait", "opens"] "Walk.__init__" (defScope s_Walk_init) (He.ma K (He.ga K "Walk") "__init__") cdv A outer s H E).nox (defBody s_Walk_init) t ∧ t { nx := fun _ H' => Q .non H', rt := Q } (start ["self", "talk", "chooser", "begin", "again", "most", "wait", "opens"] vs) H := by
  refine ⟨_, (pss_cons (ps_expr (pe_callH (ok_look_room T) (hr.mono (by decide)) (by rfl) (g_look_room T) (pa_cons (pv 1) (pa_cons (pv 5) pa_nil))))
      (pss_cons (ps_fld (pv 0) (pv 1) rfl)
      (pss_cons (ps_fld (pv 0) (pv 2) rfl)
      (pss_cons (ps_fld (pv 0) (pe_tup (pa_cons (pv 3) (pa_cons (pv 4) (pa_cons (pv 5) pa_nil)))) rfl)
      (pss_cons (ps_fld (pv 0) (pv 6) rfl)
      (pss_cons (ps_fld (pv 0) (pv 7) rfl)
      (pss_cons (ps_fld (pv 0) (pe_callH0 (ok_first_stand T) (hr.mono (by decide)) (by rfl) (g_first_stand T)) rfl)
      (pss_cons (ps_fld (pv 0) pe_int rfl)
      (pss_cons (ps_asg2 pe_non (pg_fld (pv 0)) (pg_fld (pv 0)))
      (pss_cons (ps_fld (pv 0) (pe_lst pa_nil) rfl)
      (pss_cons (ps_fld (pv 0) (pe_lst pa_nil) rfl)
      (pss_cons (ps_fld (pv 0) (pe_lst pa_nil) rfl)
      (pss_cons (ps_fld (pv 0) (pe_lst pa_nil) rfl)
      (pss_cons (ps_fld (pv 0) (pe_lst pa_nil) rfl)
      (pss_one (ps_fld (pv 0) (pe_lst pa_nil) rfl)))))))))))))))), ?_⟩
  obtain ⟨x, dx, ta, ch, t, op, rfl, hx, ht, hm, hq⟩ := h
  walk_at "rd"
  refine ⟨ta, t, op.m, rfl, ht, hm, fun H1 g1 => ?_⟩
  replace hx := g1.chg _ _ hx (by simp)
  have g := g1.mono (S' := [x]) fun a z => by cases z
  walk_at "rd"
  refine nw_talk_walked T (vs := []) hx rfl fun H2 g2 hx => ?_
  replace g := g.trans' g2
  walk_at "rd"
  refine nw_chooser_asked T hx rfl fun H3 g3 hx => ?_
  replace g := g.trans' g3
  walk_at "rd"
  refine newTup fun lm H4 g4 _ hlm => ?_
  replace hx := g4.chg _ _ hx (by simp)
  replace g := g.trans0 g4
  walk_at "rd"
  refine nw_limits T hx rfl fun H5 g5 hx => ?_
  replace g := g.trans' g5
  replace hlm := sqT (K := K) (g5.fix _ _ hlm rfl)
  walk_at "rd"
  refine nw_waiting T hx rfl fun H6 g6 hx => ?_
  replace g := g.trans' g6
  walk_at "rd"
  refine nw_opening T hx rfl fun H7 g7 hx => ?_
  replace g := g.trans' g7
  replace hlm := g7.tup (g6.tup hlm)
  walk_at "rd"
  refine ⟨rfl, fun sa hsa => ?_⟩
  walk_at "rd"
  refine nw_stand_here T hx rfl fun H8 g8 hx => ?_
  replace g := g.trans' g8
  walk_at "rd"
  refine nw_beat_here T hx rfl fun H9 g9 hx => ?_
  replace g := g.trans' g9
  replace hsa := g9.tup (g8.tup hsa)
  replace hlm := g9.tup (g8.tup hlm)
  walk_at "rd"
  refine nw_rate_last T hx rfl fun H10 g10 hx => ?_
  replace g := g.trans' g10
  walk_at "rd"
  refine nw_speed_last T hx rfl fun H11 g11 hx => ?_
  replace g := g.trans' g11
  replace hsa := g11.tup (g10.tup hsa)
  replace hlm := g11.tup (g10.tup hlm)
  walk_at "rd"
  refine newLst fun l1 J1 a1 f1 h1 => ?_
  have n1 : l1 ≠ x := fun z => by
    rw [z, hx] at f1
    cases f1
  have q1 : H l1 = none := g.free f1 (by simp [n1])
  replace hx := a1.chg _ _ hx (by simp)
  replace g := g.trans0 a1
  walk_at "rd"
  refine nw_rates T hx rfl fun I1 b1 hx => ?_
  replace g := g.trans' b1
  replace hsa := b1.tup (a1.tup hsa)
  replace hlm := b1.tup (a1.tup hlm)
  replace h1 := b1.chg _ _ h1 (by simp [n1])
  walk_at "rd"
  refine newLst fun l2 J2 a2 f2 h2 => ?_
  have n2 : l2 ≠ x := fun z => by
    rw [z, hx] at f2
    cases f2
  have q2 : H l2 = none := g.free f2 (by simp [n2])
  have m21 : l2 ≠ l1 := fun z => by
    rw [z, h1] at f2
    cases f2
  replace h1 := a2.chg _ _ h1 (by simp)
  replace hx := a2.chg _ _ hx (by simp)
  replace g := g.trans0 a2
  walk_at "rd"
  refine nw_begun T hx rfl fun I2 b2 hx => ?_
  replace g := g.trans' b2
  replace hsa := b2.tup (a2.tup hsa)
  replace hlm := b2.tup (a2.tup hlm)
  replace h1 := b2.chg _ _ h1 (by simp [n1])
  replace h2 := b2.chg _ _ h2 (by simp [n2])
  walk_at "rd"
  refine newLst fun l3 J3 a3 f3 h3 => ?_
  have n3 : l3 ≠ x := fun z => by
    rw [z, hx] at f3
    cases f3
  have q3 : H l3 = none := g.free f3 (by simp [n3])
  have m31 : l3 ≠ l1 := fun z => by
    rw [z, h1] at f3
    cases f3
  replace h1 := a3.chg _ _ h1 (by simp)
  have m32 : l3 ≠ l2 := fun z => by
    rw [z, h2] at f3
    cases f3
  replace h2 := a3.chg _ _ h2 (by simp)
  replace hx := a3.chg _ _ hx (by simp)
  replace g := g.trans0 a3
  walk_at "rd"
  refine nw_whole T hx rfl fun I3 b3 hx => ?_
  replace g := g.trans' b3
  replace hsa := b3.tup (a3.tup hsa)
  replace hlm := b3.tup (a3.tup hlm)
  replace h1 := b3.chg _ _ h1 (by simp [n1])
  replace h2 := b3.chg _ _ h2 (by simp [n2])
  replace h3 := b3.chg _ _ h3 (by simp [n3])
  walk_at "rd"
  refine newLst fun l4 J4 a4 f4 h4 => ?_
  have n4 : l4 ≠ x := fun z => by
    rw [z, hx] at f4
    cases f4
  have q4 : H l4 = none := g.free f4 (by simp [n4])
  have m41 : l4 ≠ l1 := fun z => by
    rw [z, h1] at f4
    cases f4
  replace h1 := a4.chg _ _ h1 (by simp)
  have m42 : l4 ≠ l2 := fun z => by
    rw [z, h2] at f4
    cases f4
  replace h2 := a4.chg _ _ h2 (by simp)
  have m43 : l4 ≠ l3 := fun z => by
    rw [z, h3] at f4
    cases f4
  replace h3 := a4.chg _ _ h3 (by simp)
  replace hx := a4.chg _ _ hx (by simp)
  replace g := g.trans0 a4
  walk_at "rd"
  refine nw_plays T hx rfl fun I4 b4 hx => ?_
  replace g := g.trans' b4
  replace hsa := b4.tup (a4.tup hsa)
  replace hlm := b4.tup (a4.tup hlm)
  replace h1 := b4.chg _ _ h1 (by simp [n1])
  replace h2 := b4.chg _ _ h2 (by simp [n2])
  replace h3 := b4.chg _ _ h3 (by simp [n3])
  replace h4 := b4.chg _ _ h4 (by simp [n4])
  walk_at "rd"
  refine newLst fun l5 J5 a5 f5 h5 => ?_
  have n5 : l5 ≠ x := fun z => by
    rw [z, hx] at f5
    cases f5
  have q5 : H l5 = none := g.free f5 (by simp [n5])
  have m51 : l5 ≠ l1 := fun z => by
    rw [z, h1] at f5
    cases f5
  replace h1 := a5.chg _ _ h1 (by simp)
  have m52 : l5 ≠ l2 := fun z => by
    rw [z, h2] at f5
    cases f5
  replace h2 := a5.chg _ _ h2 (by simp)
  have m53 : l5 ≠ l3 := fun z => by
    rw [z, h3] at f5
    cases f5
  replace h3 := a5.chg _ _ h3 (by simp)
  have m54 : l5 ≠ l4 := fun z => by
    rw [z, h4] at f5
    cases f5
  replace h4 := a5.chg _ _ h4 (by simp)
  replace hx := a5.chg _ _ hx (by simp)
  replace g := g.trans0 a5
  walk_at "rd"
  refine nw_stalls T hx rfl fun I5 b5 hx => ?_
  replace g := g.trans' b5
  replace hsa := b5.tup (a5.tup hsa)
  replace hlm := b5.tup (a5.tup hlm)
  replace h1 := b5.chg _ _ h1 (by simp [n1])
  replace h2 := b5.chg _ _ h2 (by simp [n2])
  replace h3 := b5.chg _ _ h3 (by simp [n3])
  replace h4 := b5.chg _ _ h4 (by simp [n4])
  replace h5 := b5.chg _ _ h5 (by simp [n5])
  walk_at "rd"
  refine newLst fun l6 J6 a6 f6 h6 => ?_
  have n6 : l6 ≠ x := fun z => by
    rw [z, hx] at f6
    cases f6
  have q6 : H l6 = none := g.free f6 (by simp [n6])
  have m61 : l6 ≠ l1 := fun z => by
    rw [z, h1] at f6
    cases f6
  replace h1 := a6.chg _ _ h1 (by simp)
  have m62 : l6 ≠ l2 := fun z => by
    rw [z, h2] at f6
    cases f6
  replace h2 := a6.chg _ _ h2 (by simp)
  have m63 : l6 ≠ l3 := fun z => by
    rw [z, h3] at f6
    cases f6
  replace h3 := a6.chg _ _ h3 (by simp)
  have m64 : l6 ≠ l4 := fun z => by
    rw [z, h4] at f6
    cases f6
  replace h4 := a6.chg _ _ h4 (by simp)
  have m65 : l6 ≠ l5 := fun z => by
    rw [z, h5] at f6
    cases f6
  replace h5 := a6.chg _ _ h5 (by simp)
  replace hx := a6.chg _ _ hx (by simp)
  replace g := g.trans0 a6
  walk_at "rd"
  refine nw_kept T hx rfl fun I6 b6 hx => ?_
  replace g := g.trans' b6
  replace hsa := b6.tup (a6.tup hsa)
  replace hlm := b6.tup (a6.tup hlm)
  replace h1 := b6.chg _ _ h1 (by simp [n1])
  replace h2 := b6.chg _ _ h2 (by simp [n2])
  replace h3 := b6.chg _ _ h3 (by simp [n3])
  replace h4 := b6.chg _ _ h4 (by simp [n4])
  replace h5 := b6.chg _ _ h5 (by simp [n5])
  replace h6 := b6.chg _ _ h6 (by simp [n6])
  refine hq _ ⟨x, l1, l2, l3, l4, l5, l6⟩ rfl g (fun l hl => ?_) ⟨⟨dx, lm, sa, hx, hlm, hsa⟩, h1, h2, h3, h4, ⟨[], h5, rfl, fun i p q e _ => by simp at e⟩, h6, ?_⟩
  · simp only [Wa.all, List.mem_cons, List.not_mem_nil, or_false] at hl
    rcases hl with rfl | rfl | rfl | rfl | rfl | rfl | rfl
    · exact .inl rfl
    · exact .inr q1
    · exact .inr q2
    · exact .inr q3
    · exact .inr q4
    · exact .inr q5
    · exact .inr q6
  · simp only [Wa.all, List.nodup_cons, List.mem_cons, List.not_mem_nil, or_false, not_or, not_false_eq_true, List.nodup_nil, and_true]
    exact ⟨⟨n1.symm, n2.symm, n3.symm, n4.symm, n5.symm, n6.symm⟩, ⟨m21.symm, m31.symm, m41.symm, m51.symm, m61.symm⟩, ⟨m32.symm, m42.symm, m52.symm, m62.symm⟩, ⟨m43.symm, m53.symm, m63.symm⟩, ⟨m54.symm, m64.symm⟩, m65.symm⟩
def gv_Walk_init_all (vs zs : List V) : List V := vs ++ zs
theorem ok_Walk_init_all (T : Txt K mg) : HasN P w K mg base (2 + 1) (He.ma K (He.ga K "Walk") "__init__") ["self", "talk", "chooser", "begin", "again", "most", "wait", "opens"] 3 ["begin", "again", "most", "wait", "opens"] gv_Walk_init_all (sp_Walk_init K) :=
  hasN_of (P := P) (w := w) (base := base) (k := 2) 3 ["begin", "again", "most", "wait", "opens"] [] (fun us mv ws => us ++ ws) (fd_Walk_init T) sc_Walk_init (fun z => nomatch z) (by decide +kernel) (fun r1 r2 r3 => r1.append r3)
    (fun _ _ _ _ _ _ us mv ws h1 h2 h3 => match us, mv, ws, h1, h2, h3 with | [_, _, _], [], [_, _, _, _, _], _, _, _ => rfl) len_Walk_init (bd_Walk_init T)
end
end Rp
end
section
set_option Elab.async false
set_option linter.all false
set_option maxRecDepth 100000
set_option maxHeartbeats 4000000
namespace Rp
open PySem PySem.Spec PyProof.Rows L2
local macro_rules | `(tactic| walk_at "rd1") => `(tactic| with_reducible first
  | refine c_seq ?_ | refine c_asg ?_ | refine c_drop ?_ | refine c_ret ?_ | refine c_ifS ?_ | refine c_brk ?_ | refine c_name ?_
  | refine c_gcons ?_ | refine c_gnil ?_ | refine c_var (by with_unfolding_all rfl) ?_ | refine c_op ?_ | refine c_un ?_ | refine c_c ?_
  | refine c_I0 ?_ | refine c_U ?_ | refine c_ip ?_ | refine c_eqI ?_ | refine c_neI ?_ | refine c_test ?_ | refine c_tB ?_
  | refine c_not ?_ | refine c_and ?_ | refine c_or ?_ | refine c_andV ?_ | refine c_orV ?_ | refine c_notV ?_ | refine c_if ?_
  | refine c_cons ?_ | refine c_nil ?_ | refine c_tupN ?_ | refine c_lstN ?_ | refine c_CB ?_ | refine c_call ?_ | refine c_meth ?_ | refine c_fld ?_ | refine c_sfld ?_ | refine c_gfld ?_
  | refine c_aug (by with_unfolding_all rfl) ?_ | refine c_fldaug ?_ | refine c_sl ?_ | refine c_noPart ?_ | refine c_part ?_ | refine c_callN ?_ | refine c_bm ?_ | refine c_bm0 ?_ | refine c_make ?_ | refine c_makeK ?_ | refine c_asg2 ?_ | refine c_asg3 ?_ | refine c_itT ?_ | refine c_itN ?_ | refine c_itNT ?_ | refine c_itF ?_ | refine c_chain ?_ | refine c_next ?_ | refine ⟨_, (rfl : V.bl _ = V.bl _), ?_⟩ | refine ⟨_, (rfl : V.int _ = V.int _), ?_⟩)
local macro_rules | `(tactic| walk_at "rs1") => `(tactic| with_reducible first
  | refine c_seq ?_ | refine c_asg ?_ | refine c_drop ?_ | refine c_ret ?_ | refine c_brk ?_ | refine c_name ?_
  | refine c_gcons ?_ | refine c_gnil ?_ | refine c_var (by with_unfolding_all rfl) ?_ | refine c_op ?_ | refine c_un ?_ | refine c_c ?_
  | refine c_I0 ?_ | refine c_U ?_ | refine c_ip ?_ | refine c_eqI ?_ | refine c_neI ?_ | refine c_test ?_ | refine c_tB ?_
  | refine c_not ?_ | refine c_and ?_ | refine c_or ?_ | refine c_andV ?_ | refine c_orV ?_ | refine c_notV ?_ | refine c_if ?_
  | refine c_cons ?_ | refine c_nil ?_ | refine c_tupN ?_ | refine c_lstN ?_ | refine c_CB ?_ | refine c_call ?_ | refine c_meth ?_ | refine c_fld ?_ | refine c_sfld ?_ | refine c_gfld ?_
  | refine c_aug (by with_unfolding_all rfl) ?_ | refine c_fldaug ?_ | refine c_sl ?_ | refine c_noPart ?_ | refine c_part ?_ | refine c_callN ?_ | refine c_bm ?_ | refine c_bm0 ?_ | refine c_make ?_ | refine c_makeK ?_ | refine c_asg2 ?_ | refine c_asg3 ?_ | refine c_itT ?_ | refine c_itN ?_ | refine c_itNT ?_ | refine c_itF ?_ | refine c_chain ?_ | refine c_next ?_ | refine ⟨_, (rfl : V.bl _ = V.bl _), ?_⟩ | refine ⟨_, (rfl : V.int _ = V.int _), ?_⟩)
local macro_rules | `(tactic| walk_at "rd") => `(tactic| repeat walk_at "rd1")
local macro_rules | `(tactic| walk_at "rs") => `(tactic| repeat walk_at "rs1")

theorem Go.updF {S : List Addr} {H H' : Hp} {D : Addr} {o : HO} (g : Go S H H') (h : H D = none) : Go S H (upd H' D o) :=
  ⟨fun b u e n => by rw [upd_ne (ne_of_none e h)]; exact g.chg b u e n, fun b u e f => by rw [upd_ne (ne_of_none e h)]; exact g.fix b u e f⟩
/-- the new list at D holds ys behind i turns -/
def PvR (D : Addr) (R : Nat → List V → Hp → Prop) (i : Nat) (H : Hp) : Prop := ∃ ys, H D = some (.lst ys) ∧ ys.length = i ∧ R i ys H
theorem lcEnd {D : Addr} {R : Nat → List V → Hp → Prop} {i : Nat} {ys : List V} {y : V} {H : Hp} (hD : H D = some (.lst ys)) (hl : ys.length = i) (hi : i < sizeLine) (hR : R (i + 1) (ys ++ [y]) (upd H D (.lst (ys ++ [y])))) :
    ∃ acc, H D = some (.lst acc) ∧ acc.length < sizeLine ∧ PvR D R (i + 1) (upd H D (.lst (acc ++ [y]))) := ⟨ys, hD, by omega, ys ++ [y], upd_same, by rw [List.length_append, hl]; rfl, hR⟩
/-- a comprehension with no condition -/
theorem c_lcW {J : It} {n : Nat} {G : Hp → Prop} {Y : Nat → Hp → V → Hp → Prop} (w : Walk J n G Y) {g : TG} {te : TE} {vs : List Nat} {σ : L2.St} {H1 : Hp} {D : Addr} {Qd : Hp → Prop} (R : Nat → List V → Hp → Prop)
    (h0 : R 0 [] (upd H1 D (.lst []))) (hG : ∀ i ys H, i ≤ n → R i ys H → G H)
    (hs : ∀ i ys x H H', i < n → ys.length = i → H D = some (.lst ys) → R i ys H → Y i H x H' → g x (wipe σ vs) H' fun σ2 H2 => wipe σ2 vs = wipe σ vs ∧ te σ2 H2 fun y H4 => ∃ acc, H4 D = some (.lst acc) ∧ acc.length < sizeLine ∧ PvR D R (i + 1) (upd H4 D (.lst (acc ++ [y]))))
    (hd : ∀ ys H, H D = some (.lst ys) → ys.length = n → R n ys H → Qd H) :
    ∃ W : Nat → Nat → Hp → Prop, (∃ m, W 0 m (upd H1 D (.lst []))) ∧ ∀ i m H, W i m H →
      (J.stop i H ∧ Qd H) ∨ (J.go i H ∧ ∃ Nx : Hp → Prop, (∀ H', Nx H' → ∃ m', m' < m ∧ W (i + 1) m' H') ∧ ∀ x H', J.yld i H x H' → g x (wipe σ vs) H' fun σ2 H2 => wipe σ2 vs = wipe σ vs ∧ tYes σ2 H2 fun b H3 =>
        if b = true then te σ2 H3 fun y H4 => ∃ acc, H4 D = some (.lst acc) ∧ acc.length < sizeLine ∧ Nx (upd H4 D (.lst (acc ++ [y]))) else Nx H3) :=
  lc_it w (PvR D R) ⟨[], upd_same, rfl, h0⟩ (fun i H hi z => by
    obtain ⟨ys, _, _, r⟩ := z
    exact hG i ys H hi r) (fun i x H H' hi z y => by
    obtain ⟨ys, h1, h2, r⟩ := z
    exact hs i ys x H H' hi h2 h1 r y) fun H z => by
    obtain ⟨ys, h1, h2, r⟩ := z
    exact hd ys H h1 h2 r
def LcR (K : PySem.W.Frag) (g : TG) (te : TE) (vs : List Nat) (σ : L2.St) (Q : VK) (J : It) (H1 : Hp) : Prop := ∀ D, H1 D = none → ∃ W : Nat → Nat → Hp → Prop, (∃ m, W 0 m (upd H1 D (.lst []))) ∧ ∀ i m H, W i m H →
      (J.stop i H ∧ Q (.ref D) H) ∨ (J.go i H ∧ ∃ Nx : Hp → Prop, (∀ H', Nx H' → ∃ m', m' < m ∧ W (i + 1) m' H') ∧ ∀ x H', J.yld i H x H' → g x (wipe σ vs) H' fun σ2 H2 => wipe σ2 vs = wipe σ vs ∧ tYes σ2 H2 fun b H3 =>
        if b = true then te σ2 H3 fun y H4 => ∃ acc, H4 D = some (.lst acc) ∧ acc.length < sizeLine ∧ Nx (upd H4 D (.lst (acc ++ [y]))) else Nx H3)
def LcT (K : PySem.W.Frag) (g : TG) (te : TE) (vs : List Nat) (σ : L2.St) (x : V) (H1 : Hp) (Q : VK) : Prop := ∃ a, x = .ref a ∧ (∃ xs, SqT K H1 a xs) ∧ LcR K g te vs σ Q (Itt K a) H1
def LcL (K : PySem.W.Frag) (g : TG) (te : TE) (vs : List Nat) (σ : L2.St) (x : V) (H1 : Hp) (Q : VK) : Prop := ∃ a, x = .ref a ∧ (∃ xs, SqL K H1 a xs) ∧ LcR K g te vs σ Q (Itl K a) H1
section
variable {K : PySem.W.Frag} {g : TG} {te : TE} {vs : List Nat} {σ : L2.St} {H H1 : Hp} {Q : VK}
theorem c_lcT {tl : TE} (h : tl σ H fun x H1 => LcT K g te vs σ x H1 Q) : tLc (iTup K tl) g tYes te vs σ H Q := h
theorem c_lcL {tl : TE} (h : tl σ H fun x H1 => LcL K g te vs σ x H1 Q) : tLc (iList K tl) g tYes te vs σ H Q := h
theorem lcT {a : Addr} {xs : List V} (h : SqT K H1 a xs) (R : Addr → Nat → List V → Hp → Prop)
    (h0 : ∀ D, H1 D = none → R D 0 [] (upd H1 D (.lst []))) (hG : ∀ D i ys H, H1 D = none → R D i ys H → SqT K H a xs)
    (hs : ∀ D i ys x H', H1 D = none → i < xs.length → xs[i]? = some x → ys.length = i → H' D = some (.lst ys) → R D i ys H' → g x (wipe σ vs) H' fun σ2 H2 => wipe σ2 vs = wipe σ vs ∧ te σ2 H2 fun y H4 => ∃ acc, H4 D = some (.lst acc) ∧ acc.length < sizeLine ∧ PvR D (R D) (i + 1) (upd H4 D (.lst (acc ++ [y]))))
    (hd : ∀ D ys H, H1 D = none → H D = some (.lst ys) → ys.length = xs.length → R D xs.length ys H → Q (.ref D) H) : LcT K g te vs σ (.ref a) H1 Q :=
  ⟨a, rfl, ⟨xs, h⟩, fun D hD => c_lcW walk_tup (R D) (h0 D hD) (fun i ys H _ r => hG D i ys H hD r) (fun i ys x H H' hi hl h1 r y => by
    obtain ⟨rfl, hx⟩ := y
    exact hs D i ys x H' hD hi hx hl h1 r) fun ys H h1 h2 r => hd D ys H hD h1 h2 r⟩
theorem lcL {a : Addr} {xs : List V} (h : SqL K H1 a xs) (R : Addr → Nat → List V → Hp → Prop)
    (h0 : ∀ D, H1 D = none → R D 0 [] (upd H1 D (.lst []))) (hG : ∀ D i ys H, H1 D = none → R D i ys H → SqL K H a xs)
    (hs : ∀ D i ys x H', H1 D = none → i < xs.length → xs[i]? = some x → ys.length = i → H' D = some (.lst ys) → R D i ys H' → g x (wipe σ vs) H' fun σ2 H2 => wipe σ2 vs = wipe σ vs ∧ te σ2 H2 fun y H4 => ∃ acc, H4 D = some (.lst acc) ∧ acc.length < sizeLine ∧ PvR D (R D) (i + 1) (upd H4 D (.lst (acc ++ [y]))))
    (hd : ∀ D ys H, H1 D = none → H D = some (.lst ys) → ys.length = xs.length → R D xs.length ys H → Q (.ref D) H) : LcL K g te vs σ (.ref a) H1 Q :=
  ⟨a, rfl, ⟨xs, h⟩, fun D hD => c_lcW walk_list (R D) (h0 D hD) (fun i ys H _ r => hG D i ys H hD r) (fun i ys x H H' hi hl h1 r y => by
    obtain ⟨rfl, hx⟩ := y
    exact hs D i ys x H' hD hi hx hl h1 r) fun ys H h1 h2 r => hd D ys H hD h1 h2 r⟩
theorem ifdn {p A B : Prop} [Decidable p] (h1 : ¬ p → A) (h2 : p → B) : if (!decide p) = true then A else B := by
  by_cases h : p
  · rw [if_neg (by rw [decide_eq_true h]; exact Bool.false_ne_true)]
    exact h2 h
  · rw [if_pos (by rw [decide_eq_false h]; rfl)]
    exact h1 h
theorem r_meth_road {m : Str} {sp : Sp} {dvs : List V} {E : XK} {tt : TA} {a : Addr} {ps : List (Int × Int)} (h : RoadAt K H a ps) (hn : kRoad.contains m = false) (k : tt σ H fun vs H2 => sp (.ref a :: (vs ++ dvs)) H2 Q E) : MethR (He.ga K "Road") m sp dvs E tt σ (.ref a) H Q := by
  obtain ⟨dx, l, rs, h1, h2⟩ := h.ex
  exact methR h1 hn k
end
/-! ### the run, pure -/
section
variable (t : Tk) (plan : List Int) (op : Op) (ps : List (Int × Int))
def spd (n : Nat) : Int := speedAt ps (n : Int) (lastV ps)
def wkN : Nat → Wk
  | 0 => wk0
  | n + 1 => wkStep t op (spd ps n) .non (wkChoose t plan op (wkN n))
theorem wkChoose_b (W : Wk) : (wkChoose t plan op W).b = W.b := by unfold wkChoose; split <;> rfl
theorem wkN_b (n : Nat) : (wkN t plan op ps n).b = n := by
  induction n with
  | zero => rfl
  | succ n ih =>
    show (wkChoose t plan op (wkN t plan op ps n)).b + 1 = _
    rw [wkChoose_b, ih]
    omega
/-- the run comes to its end behind N beats -/
structure RunOk (R N : Nat) : Prop where
  go : ∀ n, n < N → (wkN t plan op ps n).s.p ≠ t.ls.sum
  ok : ∀ n, n < N → WkOk t R op plan (wkN t plan op ps n)
  ok' : ∀ n, n < N → WkOk t R op plan (wkChoose t plan op (wkN t plan op ps n))
  fin : (wkN t plan op ps N).s.p = t.ls.sum
  z : N ≤ 90000
end
theorem wkChoose_sl (t : Tk) (plan : List Int) (op : Op) (W : Wk) (sl : V) : ∃ sl', wkChoose t plan op { W with sl := sl } = { wkChoose t plan op W with sl := sl' } := by
  unfold wkChoose
  by_cases h : asksB t op.m W.s = true
  · rw [if_pos h, if_pos (show asksB t op.m ({ W with sl := sl } : Wk).s = true from h)]
    exact ⟨sl, rfl⟩
  · rw [if_neg h, if_neg (show ¬ asksB t op.m ({ W with sl := sl } : Wk).s = true from h)]
    exact ⟨sl, rfl⟩
theorem WkOk.sl {t : Tk} {R : Nat} {op : Op} {plan : List Int} {W : Wk} (h : WkOk t R op plan W) (sl : V) : WkOk t R op plan { W with sl := sl } := ⟨h.s, h.g, h.st, h.hi, h.rl, h.kl, h.pl, h.pr⟩
/-- a run as it is told -/
structure RunAt (K : PySem.W.Frag) (H : Hp) (x : Addr) (W : Wk) (N : Nat) : Prop where
  ex : ∃ dx a1 a2 a3 a4 a5 a6, ∃ ps : List Addr, H x = some (.ins (He.ga K "Run") dx (kRun.zip [.ref a1, .ref a2, .ref a3, .ref a4, .ref a5, .int N, .ref a6])) ∧
    H a1 = some (.tup (W.r.map V.int)) ∧ H a2 = some (.tup (W.g.map V.int)) ∧ H a3 = some (.tup (W.f.map V.int)) ∧ H a4 = some (.tup (W.p.map V.int)) ∧ H a5 = some (.tup (ps.map V.ref)) ∧ StAt K H ps W.st ∧ H a6 = some (.tup (W.k.map V.int))
theorem fix_run {C dx : Addr} {v1 v2 v3 v4 v5 v6 v7 : V} : fixO (.ins C dx (kRun.zip [v1, v2, v3, v4, v5, v6, v7])) = true := by kernel_rfl
theorem RunAt.go {K : PySem.W.Frag} {S : List Addr} {H H' : Hp} {x : Addr} {W : Wk} {N : Nat} (h : RunAt K H x W N) (g : Go S H H') : RunAt K H' x W N := by
  obtain ⟨dx, a1, a2, a3, a4, a5, a6, ps, h0, h1, h2, h3, h4, h5, h6, h7⟩ := h.ex
  exact ⟨dx, a1, a2, a3, a4, a5, a6, ps, g.fix _ _ h0 fix_run, g.fix _ _ h1 rfl, g.fix _ _ h2 rfl, g.fix _ _ h3 rfl, g.fix _ _ h4 rfl, g.fix _ _ h5 rfl, h6.go g, g.fix _ _ h7 rfl⟩
section
variable {P : Program} {w : World} {K : PySem.W.Frag} {mg : Str → Option Value} {base : Heap}
def sp_run_of (K : PySem.W.Frag) : Sp := fun vs H Q E => ∃ ta ro ch t R N op plan ps, vs = [.ref ta, .ref ro, .ref ch, .int op.b, .int op.a, .int op.m, .int op.w, .non] ∧ TalkAt K H ta t ∧ TkOk t R ∧ RoadAt K H ro ps ∧ ps ≠ [] ∧ H ch = some (.tup (plan.map V.int)) ∧
  (∀ l ∈ t.ls, l ≤ op.m) ∧ RunOk t plan op ps R N ∧ ∀ H' x, Go [] H H' → RunAt K H' x (wkN t plan op ps N) N → Q (.ref x) H'
theorem len_run_of : ∀ vs H Q E, sp_run_of K vs H Q E → vs.length = 8 := by
  intro vs H Q E h
  obtain ⟨ta, ro, ch, t, R, N, op, plan, ps, rfl, _⟩ := h
  rfl
theorem bd_run_of (T : Txt K mg) (cdv : Value) (A : Around) (outer : List Env) (s : Shared) (H : Hp) (vs : List V) (Q : VK) (E : XK) (hr : Room 5 (A.deeper (envOfC "run_of" (defScope s_run_of) s.heap.objs.size (He.ga K "run_of") cdv))) (h : (sp_run_of K) vs H Q E) :
    ∃ t, PSs (cxOf CX0 P w K mg base ["talk", "road", "chooser", "begin", "again", "most", "wait", "opens", "walk", "told", "some", "rates", "begun", "whole", "plays", "stalls"] "run_of" (defScope s_run_of) (He.ga K "run_of") cdv A outer s H E).nox (defBody s_run_of) t ∧ t { nx := fun _ H' => Q .non H', rt := Q } (start ["talk", "road", "chooser", "begin", "again", "most", "wait", "opens", "walk", "told", "some", "rates", "begun", "whole", "plays", "stalls"] vs) H := by
  refine ⟨_, (pss_cons (ps_set (i := 8) sc_run_of.nd rfl (Or.inl rfl) (pe_makeNH (mk_Walk T) (ok_Walk_init_all T) (hr.mono (by decide)) (by rfl) (g_Walk T) (pa_cons (pv 0) (pa_cons (pv 2) pa_nil)) (pk_cons (pv 3) (pk_cons (pv 4) (pk_cons (pv 5) (pk_cons (pv 6) (pk_cons (pv 7) pk_nil)))))))
      (pss_cons (ps_while PassesOwn.never (pt_not (pt_val (pe_methH0 (ok_Walk_is_at_end T) (c_Walk T) (m_Walk_is_at_end T) (hr.mono (by decide)) (pv 8)))) (pss_cons (ps_expr (pe_methH0 (ok_Walk_choose_here T) (c_Walk T) (m_Walk_choose_here T) (hr.mono (by decide)) (pv 8)))
      (pss_one (ps_expr (pe_methH (ok_Walk_step_on T) (c_Walk T) (m_Walk_step_on T) (hr.mono (by decide)) (pv 8) (pa_cons (pe_methH (ok_Road_speed_at T) (c_Road T) (m_Road_speed_at T) (hr.mono (by decide)) (pv 1) (pa_cons (pe_fld (pv 8) rfl) pa_nil)) pa_nil))))))
      (pss_cons (ps_setLc (i := 9) (own := [("some", 10)]) (g := gName 10) (tt := tYes) (te := (tCB (rTupOf K) (tCons (tVar 10) tNil))) rfl sc_run_of.nd rfl rfl (sw_true rfl rfl rfl (by decide +kernel)) (pi_tup (pe_tup (pa_cons (pe_fld (pv 8) rfl) (pa_cons (pe_fld (pv 8) rfl) (pa_cons (pe_fld (pv 8) rfl) (pa_cons (pe_fld (pv 8) rfl) (pa_cons (pe_fld (pv 8) rfl) pa_nil))))))) (blkOk_by (N := ["talk", "road", "chooser", "begin", "again", "most", "wait", "opens", "walk", "told", "some", "rates", "begun", "whole", "plays", "stalls"]) (sc := defScope s_run_of) (by decide +kernel)) (fun _ _ _ _ _ => (pg_name (i := 10) sc_run_of.nd rfl (Or.inl rfl))) (fun _ _ _ _ _ => pts_nil) (fun _ _ _ _ _ => (pe_callTy call_tupR (by rfl) (b_tuple T) bt_tuple (pa_cons (pv 10) pa_nil))))
      (pss_cons (ps_asg (pv 9) (pg_unl (n := 5) rfl (pgs_cons (pg_name (i := 11) sc_run_of.nd rfl (Or.inl rfl)) (pgs_cons (pg_name (i := 12) sc_run_of.nd rfl (Or.inl rfl)) (pgs_cons (pg_name (i := 13) sc_run_of.nd rfl (Or.inl rfl)) (pgs_cons (pg_name (i := 14) sc_run_of.nd rfl (Or.inl rfl)) (pgs_cons (pg_name (i := 15) sc_run_of.nd rfl (Or.inl rfl)) pgs_nil)))))))
      (pss_one (ps_ret (pe_makeH (mk_Run T) (ok_Run_init T) (hr.mono (by decide)) (by rfl) (g_Run T) (pa_cons (pv 11) (pa_cons (pv 12) (pa_cons (pv 13) (pa_cons (pv 14) (pa_cons (pv 15) (pa_cons (pe_fld (pv 8) rfl) (pa_cons (pe_callTy call_tupR (by rfl) (b_tuple T) bt_tuple (pa_cons (pe_fld (pv 8) rfl) pa_nil)) pa_nil)))))))))))))), ?_⟩
  obtain ⟨ta, ro, ch, t, R, N, op, plan, ps, rfl, ht, ok, hro, hps, hch, hm, ro1, hq⟩ := h
  walk_at "rd"
  refine ⟨rfl, rfl, fun x dx hx hdx hne => ?_⟩
  have gm := go_made (C := He.ga K "Walk") hx hdx hne
  refine ⟨x, dx, ta, ch, t, op, rfl, upd_same, ht.go gm, hm, fun H2 A eA g2 fr hw => ⟨rfl, ?_⟩⟩
  have g := go_init hx hdx hne g2
  have fr0 : ∀ l ∈ A.all, H l = none := fun l hl => by
    rcases fr l hl with e | e
    · rw [e]
      exact hx
    · exact gm.free e (by simp)
  subst eA
  walk_at "rd"
  clear g2 fr hne
  refine ⟨fun m σ' H' => ∃ n sl, n ≤ N ∧ m = N - n ∧ Go [] H H' ∧ WalkAt K H' A ta ch op { wkN t plan op ps n with sl := sl } ∧ σ'[1]? = some (some (.ref ro)) ∧ σ'[8]? = some (some (.ref A.w)) ∧ σ'.length = 16,
    ⟨N, 0, .non, Nat.zero_le _, rfl, g, hw, rfl, rfl, rfl⟩, ?_⟩
  clear hw g
  rintro m σ' H' ⟨n, sl, hn, rfl, g, hw, s1, s8, slen⟩
  match σ', s1, s8, slen with
  | [a0, a1, a2, a3, a4, a5, a6, a7, a8, a9, a10, a11, a12, a13, a14, a15], s1, s8, _ =>
  cases s1
  cases s8
  walk_at "rd"
  refine rw_meth hw rfl ?_
  walk_at "rd"
  refine ⟨A, ta, ch, op, _, t, R, rfl, hw, ht.go g, ok, fun H1 g1 => ?_⟩
  replace hw := hw.go0 g1
  replace g := g.trans' g1
  walk_at "rd"
  refine ifdn (fun he => ?_) fun he => ?_
  · have hlt : n < N := by
      rcases Nat.lt_or_eq_of_le hn with z | z
      · exact z
      · rw [z] at he
        exact absurd ro1.fin he
    refine ⟨fun σ' H' => ∃ sl, Go [] H H' ∧ WalkAt K H' A ta ch op { wkN t plan op ps (n + 1) with sl := sl } ∧ σ'[1]? = some (some (.ref ro)) ∧ σ'[8]? = some (some (.ref A.w)) ∧ σ'.length = 16, fun σ' H' z => ?_, ?_⟩
    · obtain ⟨sl, z⟩ := z
      exact ⟨N - (n + 1), by omega, n + 1, sl, hlt, rfl, z⟩
    walk_at "rd"
    refine rw_meth hw rfl ?_
    walk_at "rd"
    refine ⟨A, ta, ch, op, _, t, R, plan, rfl, hw, ht.go g, ok, (ro1.ok n hlt).sl _, g.fix _ _ hch rfl, fun H2 g2 hw => ?_⟩
    replace g := g.trans g2 fun a z => .inr (fr0 a z)
    obtain ⟨sl', e⟩ := wkChoose_sl t plan op (wkN t plan op ps n) sl
    rw [e] at hw
    walk_at "rd"
    refine rw_meth hw rfl ?_
    walk_at "rd"
    refine r_meth_road (hro.go g) rfl ?_
    walk_at "rd"
    refine rw_beat_here T hw ?_
    walk_at "rd"
    refine ⟨ro, (n : Int), ps, ?_, hro.go g, hps, ?_⟩
    · show [V.ref ro, V.int (wkChoose t plan op (wkN t plan op ps n)).b] = _
      rw [wkChoose_b, wkN_b]
    walk_at "rd"
    refine ⟨A, _, ta, ch, op, _, t, R, plan, rfl, hw, ht.go g, ok, (ro1.ok' n hlt).sl _, fun H3 sl3 g3 hw => ?_⟩
    exact ⟨sl3, g.trans g3 fun a z => .inr (fr0 a z), hw, rfl, rfl, rfl⟩
  · have hN : n = N := by
      rcases Nat.lt_or_eq_of_le hn with z | z
      · exact absurd he (ro1.go n z)
      · exact z
    subst hN
    walk_at "rd"
    clear he hn g1
    refine c_lcT ?_
    walk_at "rd"
    refine rw_rates T hw ?_
    walk_at "rd"
    refine rw_begun T hw ?_
    walk_at "rd"
    refine rw_whole T hw ?_
    walk_at "rd"
    refine rw_plays T hw ?_
    walk_at "rd"
    refine rw_stalls T hw ?_
    walk_at "rd"
    refine newTup fun tp H2 g2 _ e2 => ?_
    replace g := g.trans' g2
    replace hw := hw.go0 g2
    obtain ⟨ps5, p1, p2⟩ := hw.h5
    generalize hWn : wkN t plan op ps n = Wn at hw hq p2
    let conts : List (List V) := [Wn.r.map V.int, Wn.g.map V.int, Wn.f.map V.int, Wn.p.map V.int, ps5.map V.ref]
    refine lcT (sqT e2) (fun D i ys H' => Go [] H2 H' ∧ ∃ qs : List Addr, ys = qs.map V.ref ∧ ∀ (j : Nat) q, qs[j]? = some q → ∃ c, conts[j]? = some c ∧ H' q = some (.tup c)) (fun D hD => ⟨Go.new hD, [], rfl, fun j q e => by simp at e⟩) (fun D i ys H' hD r => r.1.tup (sqT e2)) (fun D i ys x H' hD hi hx hl h1 r => ?_) fun D ys H' hD h1 hl r => ?_
    · obtain ⟨g3, qs, rfl, hqs⟩ := r
      have hcell : ∃ l c, x = .ref l ∧ conts[i]? = some c ∧ H' l = some (.lst c) := by
        match i, hi, hx with
        | 0, _, hx => exact ⟨A.l1, _, (Option.some.inj hx).symm, rfl, g3.chg _ _ hw.h1 (by simp)⟩
        | 1, _, hx => exact ⟨A.l2, _, (Option.some.inj hx).symm, rfl, g3.chg _ _ hw.h2 (by simp)⟩
        | 2, _, hx => exact ⟨A.l3, _, (Option.some.inj hx).symm, rfl, g3.chg _ _ hw.h3 (by simp)⟩
        | 3, _, hx => exact ⟨A.l4, _, (Option.some.inj hx).symm, rfl, g3.chg _ _ hw.h4 (by simp)⟩
        | 4, _, hx => exact ⟨A.l5, _, (Option.some.inj hx).symm, rfl, g3.chg _ _ p1 (by simp)⟩
        | i + 5, hi, _ => exact absurd hi (by simp)
      obtain ⟨l, c, rfl, hc, hlc⟩ := hcell
      walk_at "rd"
      refine ⟨rfl, ?_⟩
      walk_at "rd"
      refine tupL hlc fun q H4 g4 hqn hq4 => ?_
      refine lcEnd (g4.chg _ _ h1 (by simp)) hl (Nat.lt_trans hi (by show 5 < sizeLine; decide)) ⟨(g3.trans' g4).updF hD, qs ++ [q], by rw [List.map_append]; rfl, fun j q' e => ?_⟩
      have hDl : H4 D = some (.lst (qs.map V.ref)) := g4.chg _ _ h1 (by simp)
      by_cases hj : j < qs.length
      · rw [List.getElem?_append_left hj] at e
        obtain ⟨c', h5, h6⟩ := hqs j q' e
        exact ⟨c', h5, by rw [upd_ne fun z => by rw [z, h1] at h6; cases h6]; exact g4.fix _ _ h6 rfl⟩
      · have hj2 : j = i := by
          have := (List.getElem?_eq_some_iff.mp e).1
          simp at this hl
          omega
        rw [List.getElem?_append_right (by omega)] at e
        have hz : j - qs.length = 0 := by
          simp at hl
          omega
        rw [hz] at e
        cases e
        exact ⟨c, by rw [hj2]; exact hc, by rw [upd_ne fun z => by rw [z, hDl] at hq4; cases hq4]; exact hq4⟩
    · obtain ⟨g3, qs, rfl, hqs⟩ := r
      have hl5 : qs.length = 5 := by simpa using hl
      match qs, hl5 with
      | [q1, q2, q3, q4, q5], _ =>
      have c1 : H' q1 = some (.tup (Wn.r.map V.int)) := by
        obtain ⟨c, h5, h6⟩ := hqs 0 q1 rfl
        cases h5
        exact h6
      have c2 : H' q2 = some (.tup (Wn.g.map V.int)) := by
        obtain ⟨c, h5, h6⟩ := hqs 1 q2 rfl
        cases h5
        exact h6
      have c3 : H' q3 = some (.tup (Wn.f.map V.int)) := by
        obtain ⟨c, h5, h6⟩ := hqs 2 q3 rfl
        cases h5
        exact h6
      have c4 : H' q4 = some (.tup (Wn.p.map V.int)) := by
        obtain ⟨c, h5, h6⟩ := hqs 3 q4 rfl
        cases h5
        exact h6
      have c5 : H' q5 = some (.tup (ps5.map V.ref)) := by
        obtain ⟨c, h5, h6⟩ := hqs 4 q5 rfl
        cases h5
        exact h6
      replace g := g.trans' g3
      replace hw := hw.go0 g3
      walk_at "rd"
      refine c_unlG (xs := [.ref q1, .ref q2, .ref q3, .ref q4, .ref q5]) (sqL h1) rfl ?_
      walk_at "rd"
      refine rw_beat_here T hw ?_
      walk_at "rd"
      refine rw_kept T hw ?_
      walk_at "rd"
      refine tupL hw.h6 fun q6 H5 g5 _ c6 => ?_
      walk_at "rd"
      intro x dx2 hx2 hdx2 hne2
      refine ⟨x, dx2, _, _, _, _, _, _, _, rfl, upd_same, fun H6 g6 eo => ⟨rfl, ?_⟩⟩
      have g7 := go_init hx2 hdx2 hne2 g6
      have gg := g5.trans' g7
      refine hq _ _ (g.trans' gg) ⟨dx2, q1, q2, q3, q4, q5, q6, ps5, ?_, gg.fix _ _ c1 rfl, gg.fix _ _ c2 rfl, gg.fix _ _ c3 rfl, gg.fix _ _ c4 rfl, gg.fix _ _ c5 rfl, (p2.go g3).go gg, g7.fix _ _ c6 rfl⟩
      have eb : Wn.b = (n : Int) := by rw [← hWn, wkN_b]
      rw [← eb]
      exact eo
def gv_run_of_wmab (vs zs : List V) : List V := vs ++ (zs.drop 3 ++ ((zs.drop 2).take 1 ++ ((zs.drop 1).take 1 ++ (zs.take 1 ++ [V.non]))))
theorem ok_run_of_wmab (T : Txt K mg) : HasN P w K mg base (5 + 1) (He.ga K "run_of") ["talk", "road", "chooser", "begin", "again", "most", "wait", "opens"] 3 ["wait", "most", "again", "begin"] gv_run_of_wmab (sp_run_of K) :=
  hasN_of (P := P) (w := w) (base := base) (k := 5) 3 ["wait", "most", "again", "begin"] [("opens", V.non)] (fun us mv ws => us ++ (ws.drop 3 ++ ((ws.drop 2).take 1 ++ ((ws.drop 1).take 1 ++ (ws.take 1 ++ mv))))) (fd_run_of T) sc_run_of (fun z => nomatch z) (by decide +kernel) (fun r1 r2 r3 => r1.append ((r3.drop 3).append (((r3.drop 2).take 1).append (((r3.drop 1).take 1).append ((r3.take 1).append r2)))))
    (fun _ _ _ _ _ _ us mv ws h1 h2 h3 => match us, mv, ws, h1, h2, h3 with | [_, _, _], [_], [_, _, _, _], _, _, _ => ⟨_, _, _, _, _, _, rfl, rfl, rfl⟩) len_run_of (bd_run_of T)
theorem ok_run_of (T : Txt K mg) : Has P w K mg base (5 + 1) (He.ga K "run_of") ["talk", "road", "chooser", "begin", "again", "most", "wait", "opens"] [V.int 4, V.int 8, V.int 30, V.int 0, V.non] (sp_run_of K) :=
  hasB_of (P := P) (w := w) (base := base) (k := 5) 3 (fd_run_of T) sc_run_of (fun z => nomatch z) rfl
    (fun _ _ _ _ _ _ us ks h1 h2 => match us, ks, h1, h2 with | [_, _, _], [_, _, _, _, _], _, _ => ⟨_, _, _, _, _, _, rfl, rfl, ⟨_, _, _, _, _, _, rfl, rfl, ⟨_, _, _, _, _, _, rfl, rfl, ⟨_, _, _, _, _, _, rfl, rfl, ⟨_, _, _, _, _, _, rfl, rfl, rfl⟩⟩⟩⟩⟩) len_run_of (bd_run_of T)
end
end Rp
end
section
set_option Elab.async false
set_option linter.all false
set_option maxHeartbeats 1000000
/-! The plain law: stands, runs. -/
namespace Rp
open PySem PySem.Spec PyProof.Rows L2
def pre (t : Tk) (n : Nat) : Int := (t.ls.take n).sum
structure OpOk (t : Tk) (op : Op) : Prop where
  b : 1 ≤ op.b
  a : 1 ≤ op.a
  w : 0 ≤ op.w
  w10 : op.w ≤ 10
  m : ∀ l ∈ t.ls, l ≤ op.m
structure SI (t : Tk) (R : Nat) (op : Op) (s : Sd) : Prop where
  ok : SdOk t R s
  kp : s.k + s.p = pre t s.n
  k0 : 0 ≤ s.k
  p0 : 0 ≤ s.p
  o0 : s.o = 0 → s.p = 0
  g0 : s.c = -1 → s.g = 0
  gw : s.c ≠ -1 → - op.w ≤ s.g
section
variable {t : Tk} {R : Nat} {op : Op} {s : Sd}
theorem l_mem {n : Nat} (h : n < t.ls.length) : t.l n ∈ t.ls := by
  unfold Tk.l
  rw [List.getD_eq_getElem?_getD, List.getElem?_eq_getElem h]
  exact List.getElem_mem h
theorem pre_succ {n : Nat} (h : n < t.ls.length) : pre t (n + 1) = pre t n + t.l n := by
  unfold pre Tk.l
  rw [List.take_add_one, List.getElem?_eq_getElem h, List.sum_append, List.getD_eq_getElem?_getD, List.getElem?_eq_getElem h]
  simp
theorem pre_len : pre t t.ls.length = t.ls.sum := by unfold pre; rw [List.take_length]
theorem pre_le (ok : TkOk t R) : ∀ {n : Nat}, n ≤ t.ls.length → pre t n + ((t.ls.length - n : Nat) : Int) ≤ t.ls.sum := by
  intro n hn
  have h : ∀ k, k ≤ t.ls.length → pre t (t.ls.length - k) + (k : Int) ≤ t.ls.sum := by
    intro k
    induction k with
    | zero => intro _; rw [Nat.sub_zero, pre_len]; simp
    | succ k ih =>
      intro hk
      have h1 := ih (by omega)
      have h2 : t.ls.length - (k + 1) < t.ls.length := by omega
      have h3 := pre_succ (t := t) h2
      have h4 := (ok.ls _ (l_mem h2)).1
      have h5 : t.ls.length - (k + 1) + 1 = t.ls.length - k := by omega
      rw [h5] at h3
      omega
  have h1 := h (t.ls.length - n) (by omega)
  rw [show t.ls.length - (t.ls.length - n) = n by omega] at h1
  exact h1
theorem SI.p_le (ok : TkOk t R) (h : SI t R op s) : s.p ≤ t.ls.sum := by
  have h1 := pre_le ok h.ok.n
  have h2 := h.kp
  have h3 := h.k0
  omega
/-- all is played: all is fetched, nothing is kept -/
theorem SI.over (ok : TkOk t R) (h : SI t R op s) (e : s.p = t.ls.sum) : s.n = t.ls.length ∧ s.c = -1 ∧ s.g = 0 ∧ s.k = 0 := by
  have h1 := pre_le ok h.ok.n
  have h2 := h.kp
  have h3 := h.k0
  have hn : s.n = t.ls.length := by
    have := h.ok.n
    omega
  have hc : s.c = -1 := by
    rcases h.ok.c with z | ⟨_, _, z⟩
    · exact z
    · omega
  exact ⟨hn, hc, h.g0 hc, by omega⟩
theorem SI.zero (ok : TkOk t R) : SI t R op sd0 := ⟨⟨Nat.zero_le _, .inl rfl, .inl rfl⟩, rfl, Int.le_refl 0, Int.le_refl 0, fun _ => rfl, fun _ => rfl, fun h => absurd rfl h⟩
theorem SI.choose (oo : OpOk t op) (h : SI t R op s) (ha : asksB t op.m s = true) {r : Int} (hr : 0 ≤ r ∧ r < R) : SI t R op (chosenS op.w s r) := by
  obtain ⟨hn, hc, _⟩ := asks_n ha
  refine ⟨⟨h.ok.n, .inr ⟨hr.1, hr.2, hn⟩, h.ok.o⟩, h.kp, h.k0, h.p0, h.o0, fun e => ?_, fun _ => ?_⟩
  · have e : r = -1 := e
    omega
  · show -op.w ≤ 0 - op.w
    omega
theorem playedT_cases (b a m : Int) : (s.o ≠ 1 ∧ beginsB t s b a m = false ∧ playedT t s b a m = (s.k, s.p, s.o)) ∨ (¬ (s.o ≠ 1 ∧ beginsB t s b a m = false) ∧ s.k = 0 ∧ playedT t s b a m = (s.k, s.p, 2)) ∨
    (¬ (s.o ≠ 1 ∧ beginsB t s b a m = false) ∧ s.k ≠ 0 ∧ playedT t s b a m = (s.k - 1, s.p + 1, 1)) := by
  unfold playedT
  by_cases h : s.o ≠ 1 ∧ beginsB t s b a m = false
  · exact .inl ⟨h.1, h.2, if_pos h⟩
  · by_cases hk : s.k = 0
    · exact .inr (.inl ⟨h, hk, by rw [if_neg h, if_pos hk]⟩)
    · exact .inr (.inr ⟨h, hk, by rw [if_neg h, if_neg hk]⟩)
theorem played_inv (h : SI t R op s) (b a m : Int) : (playedT t s b a m).1 + (playedT t s b a m).2.1 = pre t s.n ∧ 0 ≤ (playedT t s b a m).1 ∧ s.p ≤ (playedT t s b a m).2.1 ∧ ((playedT t s b a m).2.2 = 0 → (playedT t s b a m).2.1 = 0) ∧
    ((playedT t s b a m).2.2 = 0 ∨ (playedT t s b a m).2.2 = 1 ∨ (playedT t s b a m).2.2 = 2) := by
  have h1 := h.kp
  have h2 := h.k0
  rcases playedT_cases (t := t) (s := s) b a m with ⟨_, _, e⟩ | ⟨_, hk, e⟩ | ⟨_, hk, e⟩
  · rw [e]
    exact ⟨h1, h2, Int.le_refl _, h.o0, h.ok.o⟩
  · rw [e]
    refine ⟨h1, h2, Int.le_refl _, fun z => ?_, .inr (.inr rfl)⟩
    have z : (2 : Int) = 0 := z
    omega
  · rw [e]
    refine ⟨?_, ?_, ?_, fun z => ?_, .inr (.inl rfl)⟩
    · show s.k - 1 + (s.p + 1) = _
      omega
    · show 0 ≤ s.k - 1
      omega
    · show s.p ≤ s.p + 1
      omega
    · have z : (1 : Int) = 0 := z
      omega
/-- what a beat makes of a stand, by its three ways -/
theorem beatS_cases (v b a m : Int) : (s.c = -1 ∧ beatS t s v b a m = ⟨s.n, s.c, s.g, (playedT t s b a m).1, (playedT t s b a m).2.1, (playedT t s b a m).2.2⟩) ∨
    (s.c ≠ -1 ∧ gotV s v < t.z s.n s.c ∧ beatS t s v b a m = ⟨s.n, s.c, gotV s v, (playedT t s b a m).1, (playedT t s b a m).2.1, (playedT t s b a m).2.2⟩) ∨
    (s.c ≠ -1 ∧ t.z s.n s.c ≤ gotV s v ∧ beatS t s v b a m = ⟨s.n + 1, -1, 0, (playedT t s b a m).1 + t.l s.n, (playedT t s b a m).2.1, (playedT t s b a m).2.2⟩) := by
  unfold beatS
  by_cases hc : s.c = -1
  · exact .inl ⟨hc, by rw [if_pos hc]⟩
  · by_cases hg : gotV s v < t.z s.n s.c
    · exact .inr (.inl ⟨hc, hg, by rw [if_neg hc, if_pos hg]⟩)
    · exact .inr (.inr ⟨hc, by omega, by rw [if_neg hc, if_neg hg]⟩)
theorem gotV_ge {v : Int} (hv : 0 ≤ v) : s.g ≤ gotV s v := by
  unfold gotV
  split <;> omega
theorem SI.beat (ok : TkOk t R) (h : SI t R op s) {v : Int} (hv : 0 ≤ v) : SI t R op (beatS t s v op.b op.a op.m) := by
  obtain ⟨q1, q2, q3, q4, q5⟩ := played_inv h op.b op.a op.m
  have hp := h.p0
  rcases beatS_cases (t := t) (s := s) v op.b op.a op.m with ⟨hc, e⟩ | ⟨hc, hg, e⟩ | ⟨hc, hg, e⟩
  · rw [e]
    exact ⟨⟨h.ok.n, h.ok.c, q5⟩, q1, q2, Int.le_trans hp q3, q4, h.g0, h.gw⟩
  · rw [e]
    exact ⟨⟨h.ok.n, h.ok.c, q5⟩, q1, q2, Int.le_trans hp q3, q4, fun z => absurd z hc, fun _ => Int.le_trans (h.gw hc) (gotV_ge hv)⟩
  · obtain ⟨_, _, hn⟩ := h.ok.c.resolve_left hc
    have hl := (ok.ls _ (l_mem hn)).1
    rw [e]
    refine ⟨⟨hn, .inl rfl, q5⟩, ?_, ?_, Int.le_trans hp q3, q4, fun _ => rfl, fun z => absurd rfl z⟩
    · show (playedT t s op.b op.a op.m).1 + t.l s.n + (playedT t s op.b op.a op.m).2.1 = pre t (s.n + 1)
      rw [pre_succ hn]
      omega
    · show 0 ≤ (playedT t s op.b op.a op.m).1 + t.l s.n
      omega
/-- ahead of all play nothing stalls -/
theorem SI.hi (ok : TkOk t R) (oo : OpOk t op) (h : SI t R op s) (ho : s.o = 0) {v : Int} (h2 : (beatS t s v op.b op.a op.m).o = 2) : s.p < (beatS t s v op.b op.a op.m).p := by
  exfalso
  have e2 : (playedT t s op.b op.a op.m).2.2 = 2 := by
    rcases beatS_cases (t := t) (s := s) v op.b op.a op.m with ⟨_, e⟩ | ⟨_, _, e⟩ | ⟨_, _, e⟩
    all_goals
      rw [e] at h2
      exact h2
  rcases playedT_cases (t := t) (s := s) op.b op.a op.m with ⟨_, _, e⟩ | ⟨hb, hk, e⟩ | ⟨_, _, e⟩
  · rw [e] at e2
    have e2 : s.o = 2 := e2
    omega
  · have hb2 : beginsB t s op.b op.a op.m = true := by
      cases z : beginsB t s op.b op.a op.m with
      | true => rfl
      | false => exact absurd ⟨by omega, z⟩ hb
    have hp := h.o0 ho
    have hkp := h.kp
    have hlen : s.n < t.ls.length := by
      have h1 := h.ok.n
      rcases Nat.lt_or_eq_of_le h1 with z | z
      · exact z
      · rw [z, pre_len] at hkp
        have := (sum_ls ok).1
        omega
    simp only [beginsB, Bool.or_eq_true, decide_eq_true_eq, Bool.and_eq_true, Bool.not_eq_true'] at hb2
    rcases hb2 with (z | z) | ⟨_, z⟩
    · have := oo.b
      have := oo.a
      rw [if_pos ho] at z
      omega
    · omega
    · simp only [hasRoom, decide_eq_true hlen, Bool.true_and, decide_eq_false_iff_not] at z
      have := oo.m _ (l_mem hlen)
      omega
  · rw [e] at e2
    have e2 : (1 : Int) = 2 := e2
    omega
theorem beat_p (v b a m : Int) : (beatS t s v b a m).p = (playedT t s b a m).2.1 ∧ (beatS t s v b a m).o = (playedT t s b a m).2.2 := by
  rcases beatS_cases (t := t) (s := s) v b a m with ⟨_, e⟩ | ⟨_, _, e⟩ | ⟨_, _, e⟩
  all_goals
    rw [e]
    exact ⟨rfl, rfl⟩
/-- a beat is played, or none -/
theorem beat_p_cases (v b a m : Int) : ((beatS t s v b a m).p = s.p ∧ ((beatS t s v b a m).o = s.o ∧ s.o ≠ 1 ∨ (beatS t s v b a m).o = 2)) ∨ ((beatS t s v b a m).p = s.p + 1 ∧ (beatS t s v b a m).o = 1) := by
  rw [(beat_p v b a m).1, (beat_p v b a m).2]
  rcases playedT_cases (t := t) (s := s) b a m with ⟨h, _, e⟩ | ⟨_, hk, e⟩ | ⟨_, _, e⟩
  · rw [e]
    exact .inl ⟨rfl, .inl ⟨rfl, h⟩⟩
  · rw [e]
    exact .inl ⟨rfl, .inr rfl⟩
  · rw [e]
    exact .inr ⟨rfl, rfl⟩
theorem beat_n_cases (v b a m : Int) : ((beatS t s v b a m).n = s.n ∧ (beatS t s v b a m).c = s.c) ∨ ((beatS t s v b a m).n = s.n + 1 ∧ s.c ≠ -1 ∧ (beatS t s v b a m).c = -1) := by
  rcases beatS_cases (t := t) (s := s) v b a m with ⟨_, e⟩ | ⟨_, _, e⟩ | ⟨hc, _, e⟩
  · rw [e]; exact .inl ⟨rfl, rfl⟩
  · rw [e]; exact .inl ⟨rfl, rfl⟩
  · rw [e]; exact .inr ⟨rfl, hc, rfl⟩
end
end Rp
end
section
set_option Elab.async false
set_option linter.all false
set_option maxHeartbeats 1000000
/-! The plain law: the run comes to its end. -/
namespace Rp
open PySem PySem.Spec PyProof.Rows L2
structure PlOk (t : Tk) (R : Nat) (plan : List Int) : Prop where
  len : plan.length = t.ls.length
  r : ∀ z ∈ plan, 0 ≤ z ∧ z < R
def lastS (st : List (Int × Int)) : Int := (st.getLastD (0, 0)).1 + (st.getLastD (0, 0)).2
def cN (c : Int) : Nat := if c = -1 then 0 else 1
theorem cN0 {c : Int} (h : c = -1) : cN c = 0 := if_pos h
theorem cN1 {c : Int} (h : c ≠ -1) : cN c = 1 := if_neg h
/-- what holds behind n beats -/
structure WI (t : Tk) (R : Nat) (op : Op) (plan : List Int) (n : Nat) (W : Wk) : Prop where
  s : SI t R op W.s
  b : W.b = n
  r : W.r = plan.take (W.s.n + cN W.s.c)
  c : W.s.c ≠ -1 → W.s.c = plan.getD W.s.n 0
  gl : W.g.length = W.s.n + cN W.s.c
  fl : W.f.length = W.s.n
  pl : (W.p.length : Int) = W.s.p
  kl : W.k.length = n
  sl : W.st.length ≤ n
  s2 : W.s.o = 2 → W.st ≠ [] ∧ lastS W.st = n
  s1 : W.s.o ≠ 2 → W.st ≠ [] → lastS W.st < n
  gz : W.s.c ≠ -1 → W.s.g < t.z W.s.n W.s.c
section
variable {t : Tk} {R : Nat} {op : Op} {plan : List Int} {n : Nat} {W : Wk}
theorem plan_in (po : PlOk t R plan) {i : Nat} (h : i < t.ls.length) : 0 ≤ plan.getD i 0 ∧ plan.getD i 0 < R := by
  rw [List.getD_eq_getElem?_getD, List.getElem?_eq_getElem (by rw [po.len]; exact h)]
  exact po.r _ (List.getElem_mem _)
theorem z_in (ok : TkOk t R) {i : Nat} {c : Int} (hi : i < t.ls.length) (h0 : 0 ≤ c) (h1 : c < R) : 1 ≤ t.z i c ∧ t.z i c ≤ 1000 := by
  have hz : i < t.zs.length := by rw [ok.zl]; exact hi
  have e : t.zs.getD i [] = t.zs[i] := by rw [List.getD_eq_getElem?_getD, List.getElem?_eq_getElem hz]; rfl
  have hl := ok.rl _ (List.getElem_mem hz)
  have hc : c.toNat < t.zs[i].length := by omega
  have e2 : t.zs[i].getD c.toNat 0 = t.zs[i][c.toNat] := by rw [List.getD_eq_getElem?_getD, List.getElem?_eq_getElem hc]; rfl
  unfold Tk.z
  rw [e, e2]
  exact ok.zs _ (List.getElem_mem hz) _ (List.getElem_mem hc)
theorem WI.zero (ok : TkOk t R) : WI t R op plan 0 wk0 :=
  ⟨SI.zero ok, rfl, rfl, fun h => absurd rfl h, rfl, rfl, rfl, rfl, Nat.le_refl _, fun h => absurd (show (0 : Int) = 2 from h) (by decide), fun _ h => absurd rfl h, fun h => absurd rfl h⟩
theorem WI.choose (ok : TkOk t R) (oo : OpOk t op) (po : PlOk t R plan) (h : WI t R op plan n W) : WI t R op plan n (wkChoose t plan op W) := by
  unfold wkChoose
  by_cases ha : asksB t op.m W.s = true
  · rw [if_pos ha]
    obtain ⟨hn, hc, _⟩ := asks_n ha
    have hr := plan_in po hn
    have hne : plan.getD W.s.n 0 ≠ -1 := by omega
    have hz := z_in ok hn hr.1 hr.2
    refine ⟨h.s.choose oo ha hr, h.b, ?_, fun _ => rfl, ?_, h.fl, h.pl, h.kl, h.sl, h.s2, h.s1, fun _ => ?_⟩
    · show W.r ++ [plan.getD W.s.n 0] = plan.take (W.s.n + cN (plan.getD W.s.n 0))
      rw [h.r, cN0 hc, cN1 hne, List.take_add_one, List.getElem?_eq_getElem (by rw [po.len]; exact hn), List.getD_eq_getElem?_getD, List.getElem?_eq_getElem (by rw [po.len]; exact hn)]
      rfl
    · show (W.g ++ [W.b]).length = W.s.n + cN (plan.getD W.s.n 0)
      rw [List.length_append, h.gl, cN0 hc, cN1 hne]
      rfl
    · show 0 - op.w < t.z W.s.n (plan.getD W.s.n 0)
      have := oo.w
      omega
  · rw [if_neg ha]
    exact h
theorem WI.step (ok : TkOk t R) (oo : OpOk t op) (po : PlOk t R plan) (h : WI t R op plan n W) {v : Int} (hv : 0 ≤ v) (sl : V) : WI t R op plan (n + 1) (wkStep t op v sl W) := by
  have hs := h.s.beat ok hv
  have hp := beat_p_cases (t := t) (s := W.s) v op.b op.a op.m
  have hnc := beat_n_cases (t := t) (s := W.s) v op.b op.a op.m
  have hhi := fun ho => h.s.hi ok oo ho (v := v)
  have hgz : (beatS t W.s v op.b op.a op.m).c ≠ -1 → (beatS t W.s v op.b op.a op.m).g < t.z (beatS t W.s v op.b op.a op.m).n (beatS t W.s v op.b op.a op.m).c := by
    rcases beatS_cases (t := t) (s := W.s) v op.b op.a op.m with ⟨hc, e⟩ | ⟨hc, hg, e⟩ | ⟨hc, hg, e⟩
    · rw [e]; exact fun z => absurd hc z
    · rw [e]; exact fun _ => hg
    · rw [e]; exact fun z => absurd rfl z
  generalize hs' : beatS t W.s v op.b op.a op.m = s' at hs hp hnc hhi hgz
  have eW : wkStep t op v sl W = { s := s', b := W.b + 1, rl := W.rl, sl := sl, r := W.r, g := W.g, f := if W.s.n < s'.n then W.f ++ [W.b + 1] else W.f, p := if W.s.p < s'.p then W.p ++ [W.b] else W.p, st := stNext W.s s' W.b W.st, k := W.k ++ [s'.k] } := by
    simp only [wkStep, hs']
  rw [eW]
  have hst : (stNext W.s s' W.b W.st).length ≤ n + 1 ∧ (s'.o = 2 → stNext W.s s' W.b W.st ≠ [] ∧ lastS (stNext W.s s' W.b W.st) = ((n + 1 : Nat) : Int)) ∧ (s'.o ≠ 2 → stNext W.s s' W.b W.st ≠ [] → lastS (stNext W.s s' W.b W.st) < ((n + 1 : Nat) : Int)) := by
    have hsl := h.sl
    have hb := h.b
    unfold stNext
    rcases hp with ⟨hp, ho⟩ | ⟨hp, ho⟩
    · rw [if_neg (by omega)]
      by_cases ho2 : s'.o = 2
      · rw [if_pos ho2]
        by_cases ho1 : W.s.o = 1
        · rw [if_pos ho1]
          refine ⟨by rw [List.length_append]; simp; omega, fun _ => ⟨by simp, ?_⟩, fun z => absurd ho2 z⟩
          unfold lastS
          rw [List.getLastD_concat]
          show W.b + 1 = _
          omega
        · rw [if_neg ho1]
          have ho3 : W.s.o = 2 := by
            rcases h.s.ok.o with z | z | z
            · have := hhi z ho2
              omega
            · exact absurd z ho1
            · exact z
          obtain ⟨hne, hl⟩ := h.s2 ho3
          have hpos : 0 < W.st.length := List.length_pos_iff.mpr hne
          refine ⟨by rw [List.length_append, List.length_dropLast]; simp; omega, fun _ => ⟨by simp, ?_⟩, fun z => absurd ho2 z⟩
          unfold lastS at hl ⊢
          rw [List.getLastD_concat]
          show (W.st.getLastD (0, 0)).1 + ((W.st.getLastD (0, 0)).2 + 1) = _
          omega
      · rw [if_neg ho2]
        refine ⟨by omega, fun z => absurd z ho2, fun _ hne => ?_⟩
        rcases ho with ⟨e, _⟩ | e
        · have := h.s1 (by rw [← e]; exact ho2) hne
          omega
        · exact absurd e ho2
    · rw [if_pos (by omega)]
      refine ⟨by omega, fun z => by omega, fun _ hne => ?_⟩
      by_cases ho2 : W.s.o = 2
      · have := (h.s2 ho2).2
        omega
      · have := h.s1 ho2 hne
        omega
  refine ⟨hs, ?_, ?_, ?_, ?_, ?_, ?_, ?_, hst.1, hst.2.1, hst.2.2, hgz⟩
  · show W.b + 1 = _
    rw [h.b]
    omega
  · show W.r = plan.take (s'.n + cN s'.c)
    rw [h.r]
    rcases hnc with ⟨e1, e2⟩ | ⟨e1, e2, e3⟩
    · rw [e1, e2]
    · rw [e1, cN1 e2, cN0 e3]
  · show s'.c ≠ -1 → s'.c = plan.getD s'.n 0
    rcases hnc with ⟨e1, e2⟩ | ⟨e1, e2, e3⟩
    · rw [e1, e2]
      exact h.c
    · exact fun z => absurd e3 z
  · show W.g.length = s'.n + cN s'.c
    rw [h.gl]
    rcases hnc with ⟨e1, e2⟩ | ⟨e1, e2, e3⟩
    · rw [e1, e2]
    · rw [e1, cN1 e2, cN0 e3]
  · show (if W.s.n < s'.n then W.f ++ [W.b + 1] else W.f).length = s'.n
    rcases hnc with ⟨e1, e2⟩ | ⟨e1, e2, e3⟩
    · rw [if_neg (by omega), h.fl, e1]
    · rw [if_pos (by omega), List.length_append, h.fl, e1]
      rfl
  · show ((if W.s.p < s'.p then W.p ++ [W.b] else W.p).length : Int) = s'.p
    have := h.pl
    rcases hp with ⟨hp, ho⟩ | ⟨hp, ho⟩
    · rw [if_neg (by omega)]
      omega
    · rw [if_pos (by omega), List.length_append]
      simp
      omega
  · show (W.k ++ [s'.k]).length = _
    rw [List.length_append, h.kl]
    rfl
theorem WI.wkOk (ok : TkOk t R) (oo : OpOk t op) (po : PlOk t R plan) (h : WI t R op plan n W) (hn : n ≤ 100000) : WkOk t R op plan W := by
  have h1 := h.s.ok.n
  have h2 := ok.l1
  have hc : cN W.s.c ≤ 1 := by
    unfold cN
    split <;> omega
  have hp := h.s.p_le ok
  have hp2 := (sum_ls ok).2
  have hpl := h.pl
  refine ⟨h.s.ok, fun z e => ?_, fun z => (h.s2 z).1, fun ho v => h.s.hi ok oo ho, ⟨?_, ?_, ?_, ?_⟩, ⟨?_, ?_⟩, po.len, po.r⟩
  · have := h.gl
    rw [e, cN1 z] at this
    simp at this
  · rw [h.r, List.length_take]
    omega
  · rw [h.gl]
    omega
  · rw [h.fl]
    omega
  · omega
  · rw [h.kl]
    exact h.sl
  · rw [h.kl]
    exact hn
end
/-! ### roads -/
structure RdOk (ps : List (Int × Int)) : Prop where
  ne : ps ≠ []
  p : ∀ p ∈ ps, 1 ≤ p.1 ∧ 0 ≤ p.2
  last : 1 ≤ lastV ps
  sum : (ps.map Prod.fst).sum ≤ 1000
theorem speedAt_nn {d : Int} (hd : 0 ≤ d) : ∀ {ps : List (Int × Int)} {n : Int}, (∀ p ∈ ps, 1 ≤ p.1 ∧ 0 ≤ p.2) → 0 ≤ speedAt ps n d
  | [], _, _ => hd
  | p :: r, n, h => by
    unfold speedAt
    split
    · exact (h p List.mem_cons_self).2
    · exact speedAt_nn hd fun q hq => h q (List.mem_cons_of_mem _ hq)
theorem speedAt_end {d : Int} : ∀ {ps : List (Int × Int)} {n : Int}, (∀ p ∈ ps, 1 ≤ p.1 ∧ 0 ≤ p.2) → (ps.map Prod.fst).sum ≤ n → speedAt ps n d = d
  | [], _, _, _ => rfl
  | p :: r, n, h, hn => by
    rw [List.map_cons, List.sum_cons] at hn
    have h2 : ∀ l : List (Int × Int), (∀ p ∈ l, 1 ≤ p.1 ∧ 0 ≤ p.2) → 0 ≤ (l.map Prod.fst).sum := by
      intro l
      induction l with
      | nil => intro _; exact Int.le_refl 0
      | cons q l ih =>
        intro hl
        have h3 := ih fun y hy => hl y (List.mem_cons_of_mem _ hy)
        have h4 := (hl q List.mem_cons_self).1
        rw [List.map_cons, List.sum_cons]
        omega
    have h3 := h2 r fun q hq => h q (List.mem_cons_of_mem _ hq)
    unfold speedAt
    rw [if_neg (by omega)]
    exact speedAt_end (fun q hq => h q (List.mem_cons_of_mem _ hq)) (by omega)
/-! ### the measure -/
def MS (t : Tk) (op : Op) (s : Sd) : Int := ((t.ls.length : Int) - s.n - cN s.c) * (op.w + 1000) + (if s.c = -1 then 0 else t.z s.n s.c - s.g) + (t.ls.sum - s.p)
section
variable {t : Tk} {R : Nat} {op : Op} {plan : List Int} {s : Sd}
theorem MS.nn (ok : TkOk t R) (oo : OpOk t op) (h : SI t R op s) (gz : s.c ≠ -1 → s.g < t.z s.n s.c) : 0 ≤ MS t op s := by
  have h1 := h.p_le ok
  have h2 := h.ok.n
  have hw := oo.w
  unfold MS
  by_cases hc : s.c = -1
  · rw [cN0 hc, if_pos hc]
    have := Int.mul_nonneg (show 0 ≤ (t.ls.length : Int) - s.n - (0 : Nat) by omega) (show 0 ≤ op.w + 1000 by omega)
    omega
  · obtain ⟨_, _, hn⟩ := h.ok.c.resolve_left hc
    rw [cN1 hc, if_neg hc]
    have := Int.mul_nonneg (show 0 ≤ (t.ls.length : Int) - s.n - (1 : Nat) by omega) (show 0 ≤ op.w + 1000 by omega)
    have := gz hc
    omega
theorem MS.choose (ok : TkOk t R) (oo : OpOk t op) (ha : asksB t op.m s = true) {r : Int} (hr : 0 ≤ r ∧ r < R) : MS t op (chosenS op.w s r) ≤ MS t op s := by
  obtain ⟨hn, hc, _⟩ := asks_n ha
  have hz := z_in ok hn hr.1 hr.2
  have hne : r ≠ -1 := by omega
  unfold MS
  rw [cN0 hc, if_pos hc]
  show ((t.ls.length : Int) - s.n - cN r) * (op.w + 1000) + (if r = -1 then 0 else t.z s.n r - (0 - op.w)) + (t.ls.sum - s.p) ≤ _
  rw [cN1 hne, if_neg hne]
  have e : ((t.ls.length : Int) - s.n - (0 : Nat)) * (op.w + 1000) = ((t.ls.length : Int) - s.n - (1 : Nat)) * (op.w + 1000) + (op.w + 1000) := by
    have : (t.ls.length : Int) - s.n - (0 : Nat) = ((t.ls.length : Int) - s.n - (1 : Nat)) + 1 := by omega
    rw [this, Int.add_mul, Int.one_mul]
  rw [e]
  omega
theorem MS.beat (ok : TkOk t R) (oo : OpOk t op) (h : SI t R op s) (gz : s.c ≠ -1 → s.g < t.z s.n s.c) {v : Int} (hv : 0 ≤ v) : MS t op (beatS t s v op.b op.a op.m) ≤ MS t op s := by
  have hp := (played_inv h op.b op.a op.m).2.2.1
  have hg := gotV_ge (s := s) hv
  rcases beatS_cases (t := t) (s := s) v op.b op.a op.m with ⟨hc, e⟩ | ⟨hc, hg2, e⟩ | ⟨hc, hg2, e⟩
  · rw [e]
    unfold MS
    show ((t.ls.length : Int) - s.n - cN s.c) * (op.w + 1000) + (if s.c = -1 then 0 else t.z s.n s.c - s.g) + (t.ls.sum - (playedT t s op.b op.a op.m).2.1) ≤ ((t.ls.length : Int) - s.n - cN s.c) * (op.w + 1000) + (if s.c = -1 then 0 else t.z s.n s.c - s.g) + (t.ls.sum - s.p)
    rw [if_pos hc]
    omega
  · rw [e]
    unfold MS
    show ((t.ls.length : Int) - s.n - cN s.c) * (op.w + 1000) + (if s.c = -1 then 0 else t.z s.n s.c - gotV s v) + (t.ls.sum - (playedT t s op.b op.a op.m).2.1) ≤ ((t.ls.length : Int) - s.n - cN s.c) * (op.w + 1000) + (if s.c = -1 then 0 else t.z s.n s.c - s.g) + (t.ls.sum - s.p)
    rw [if_neg hc, if_neg hc]
    omega
  · rw [e]
    unfold MS
    rw [if_neg hc, cN1 hc]
    show ((t.ls.length : Int) - ((s.n + 1 : Nat) : Int) - cN (-1)) * (op.w + 1000) + (if (-1 : Int) = -1 then 0 else _) + (t.ls.sum - (playedT t s op.b op.a op.m).2.1) ≤ _
    rw [if_pos rfl, cN0 rfl]
    have := gz hc
    have e3 : (t.ls.length : Int) - ((s.n + 1 : Nat) : Int) - (0 : Nat) = (t.ls.length : Int) - s.n - (1 : Nat) := by omega
    rw [e3]
    omega
/-- .. and less, where a speed is above nought -/
theorem MS.beat1 (ok : TkOk t R) (oo : OpOk t op) (h : SI t R op s) (gz : s.c ≠ -1 → s.g < t.z s.n s.c) (ha : asksB t op.m s = false) (hne : s.p ≠ t.ls.sum) {v : Int} (hv : 1 ≤ v) : MS t op (beatS t s v op.b op.a op.m) < MS t op s := by
  have hp := (played_inv h op.b op.a op.m).2.2.1
  have hg : s.g + 1 ≤ gotV s v := by
    unfold gotV
    split <;> omega
  rcases beatS_cases (t := t) (s := s) v op.b op.a op.m with ⟨hc, e⟩ | ⟨hc, hg2, e⟩ | ⟨hc, hg2, e⟩
  · have hroom : hasRoom t op.m s = false := by
      simp only [asksB, decide_eq_true hc, Bool.true_and] at ha
      exact ha
    have hb : beginsB t s op.b op.a op.m = true := by simp [beginsB, hc, hroom]
    have hk : s.k ≠ 0 := fun z => by
      rcases Nat.lt_or_eq_of_le h.ok.n with hl | hl
      · simp only [hasRoom, decide_eq_true hl, Bool.true_and, decide_eq_false_iff_not] at hroom
        have := oo.m _ (l_mem hl)
        omega
      · have := h.kp
        rw [hl, pre_len] at this
        omega
    have e2 : (playedT t s op.b op.a op.m).2.1 = s.p + 1 := by
      rcases playedT_cases (t := t) (s := s) op.b op.a op.m with ⟨_, z, _⟩ | ⟨_, z, _⟩ | ⟨_, _, z⟩
      · rw [hb] at z
        cases z
      · exact absurd z hk
      · rw [z]
    rw [e]
    unfold MS
    show ((t.ls.length : Int) - s.n - cN s.c) * (op.w + 1000) + (if s.c = -1 then 0 else t.z s.n s.c - s.g) + (t.ls.sum - (playedT t s op.b op.a op.m).2.1) < ((t.ls.length : Int) - s.n - cN s.c) * (op.w + 1000) + (if s.c = -1 then 0 else t.z s.n s.c - s.g) + (t.ls.sum - s.p)
    rw [if_pos hc, e2]
    omega
  · rw [e]
    unfold MS
    show ((t.ls.length : Int) - s.n - cN s.c) * (op.w + 1000) + (if s.c = -1 then 0 else t.z s.n s.c - gotV s v) + (t.ls.sum - (playedT t s op.b op.a op.m).2.1) < ((t.ls.length : Int) - s.n - cN s.c) * (op.w + 1000) + (if s.c = -1 then 0 else t.z s.n s.c - s.g) + (t.ls.sum - s.p)
    rw [if_neg hc, if_neg hc]
    omega
  · rw [e]
    unfold MS
    rw [if_neg hc, cN1 hc]
    show ((t.ls.length : Int) - ((s.n + 1 : Nat) : Int) - cN (-1)) * (op.w + 1000) + (if (-1 : Int) = -1 then 0 else _) + (t.ls.sum - (playedT t s op.b op.a op.m).2.1) < _
    rw [if_pos rfl, cN0 rfl]
    have := gz hc
    have e3 : (t.ls.length : Int) - ((s.n + 1 : Nat) : Int) - (0 : Nat) = (t.ls.length : Int) - s.n - (1 : Nat) := by omega
    rw [e3]
    omega
end
theorem least {P : Nat → Prop} : ∀ n, P n → ∃ m, m ≤ n ∧ P m ∧ ∀ k, k < m → ¬ P k := by
  intro n
  induction n using Nat.strongRecOn with
  | ind n ih =>
    intro h
    by_cases q : ∃ k, k < n ∧ P k
    · obtain ⟨k, h1, h2⟩ := q
      obtain ⟨m, h3, h4, h5⟩ := ih k h1 h2
      exact ⟨m, by omega, h4, h5⟩
    · exact ⟨n, Nat.le_refl _, h, fun k hk z => q ⟨k, hk, z⟩⟩
section
variable {t : Tk} {R : Nat} {op : Op} {plan : List Int} {ps : List (Int × Int)}
theorem spd_nn (ro : RdOk ps) (n : Nat) : 0 ≤ spd ps n := speedAt_nn (by have := ro.last; omega) ro.p
theorem wkN_inv (ok : TkOk t R) (oo : OpOk t op) (po : PlOk t R plan) (ro : RdOk ps) : ∀ n, WI t R op plan n (wkN t plan op ps n)
  | 0 => WI.zero ok
  | n + 1 => ((wkN_inv ok oo po ro n).choose ok oo po).step ok oo po (spd_nn ro n) .non
theorem run_ends (ok : TkOk t R) (oo : OpOk t op) (po : PlOk t R plan) (ro : RdOk ps) : ∃ N, RunOk t plan op ps R N := by
  have inv := wkN_inv (t := t) ok oo po ro
  have hsum : 0 ≤ (ps.map Prod.fst).sum := by
    obtain ⟨p, r, e⟩ : ∃ p r, ps = p :: r := by
      cases h : ps with
      | nil => exact absurd h ro.ne
      | cons p r => exact ⟨p, r, rfl⟩
    have h2 : ∀ l : List (Int × Int), (∀ p ∈ l, 1 ≤ p.1 ∧ 0 ≤ p.2) → 0 ≤ (l.map Prod.fst).sum := by
      intro l
      induction l with
      | nil => intro _; exact Int.le_refl 0
      | cons q l ih =>
        intro hl
        have h3 := ih fun y hy => hl y (List.mem_cons_of_mem _ hy)
        have h4 := (hl q List.mem_cons_self).1
        rw [List.map_cons, List.sum_cons]
        omega
    exact h2 ps ro.p
  let B : Nat := (ps.map Prod.fst).sum.toNat
  have hB : ((B : Nat) : Int) = (ps.map Prod.fst).sum := Int.toNat_of_nonneg hsum
  let T : Nat → Int := fun n => ((B - n : Nat) : Int) + MS t op (wkN t plan op ps n).s
  have hT0 : ∀ n, 0 ≤ T n := fun n => by
    have := MS.nn ok oo (inv n).s (inv n).gz
    show 0 ≤ ((B - n : Nat) : Int) + MS t op (wkN t plan op ps n).s
    omega
  have hTs : ∀ n, (wkN t plan op ps n).s.p ≠ t.ls.sum → T (n + 1) < T n := fun n hne => by
    have i1 := (inv n).choose ok oo po
    have hc : MS t op (wkChoose t plan op (wkN t plan op ps n)).s ≤ MS t op (wkN t plan op ps n).s := by
      unfold wkChoose
      by_cases ha : asksB t op.m (wkN t plan op ps n).s = true
      · rw [if_pos ha]
        exact MS.choose ok oo ha (plan_in po (asks_n ha).1)
      · rw [if_neg ha]
        exact Int.le_refl _
    have hp : (wkChoose t plan op (wkN t plan op ps n)).s.p = (wkN t plan op ps n).s.p := by
      unfold wkChoose
      split <;> rfl
    have hna : asksB t op.m (wkChoose t plan op (wkN t plan op ps n)).s = false := by
      unfold wkChoose
      by_cases ha : asksB t op.m (wkN t plan op ps n).s = true
      · rw [if_pos ha]
        have := plan_in po (asks_n ha).1
        have hne : ¬ plan.getD (wkN t plan op ps n).s.n 0 = -1 := by omega
        show (decide (plan.getD (wkN t plan op ps n).s.n 0 = -1) && _) = false
        rw [decide_eq_false hne]
        rfl
      · rw [if_neg ha]
        cases z : asksB t op.m (wkN t plan op ps n).s with
        | true => exact absurd z ha
        | false => rfl
    have hw := MS.beat ok oo i1.s i1.gz (spd_nn ro n)
    show ((B - (n + 1) : Nat) : Int) + MS t op (beatS t (wkChoose t plan op (wkN t plan op ps n)).s (spd ps n) op.b op.a op.m) < ((B - n : Nat) : Int) + MS t op (wkN t plan op ps n).s
    by_cases hb : n < B
    · omega
    · have hv : 1 ≤ spd ps n := by
        unfold spd
        rw [speedAt_end ro.p (by omega)]
        exact ro.last
      have := MS.beat1 ok oo i1.s i1.gz hna (by rw [hp]; exact hne) hv
      omega
  have ex : ∀ k n, T n ≤ (k : Nat) → ∃ N, N ≤ n + k ∧ (wkN t plan op ps N).s.p = t.ls.sum := by
    intro k
    induction k with
    | zero =>
      intro n hn
      refine ⟨n, by omega, ?_⟩
      by_cases hne : (wkN t plan op ps n).s.p = t.ls.sum
      · exact hne
      · have h1 := hTs n hne
        have h2 := hT0 (n + 1)
        omega
    | succ k ih =>
      intro n hn
      by_cases hne : (wkN t plan op ps n).s.p = t.ls.sum
      · exact ⟨n, by omega, hne⟩
      · have h1 := hTs n hne
        obtain ⟨N, h3, h4⟩ := ih (n + 1) (by omega)
        exact ⟨N, by omega, h4⟩
  have hT : T 0 ≤ ((20000 : Nat) : Int) := by
    have h1 := ok.l1
    have h2 := (sum_ls ok).2
    have h3 := oo.w10
    have h4 := oo.w
    have h5 := ro.sum
    show ((B - 0 : Nat) : Int) + (((t.ls.length : Int) - (0 : Nat) - cN (-1)) * (op.w + 1000) + (if (-1 : Int) = -1 then 0 else _) + (t.ls.sum - 0)) ≤ _
    rw [if_pos rfl, cN0 rfl]
    have h6 : ((t.ls.length : Int) - (0 : Nat) - (0 : Nat)) * (op.w + 1000) ≤ 12 * 1010 := by
      have e : (t.ls.length : Int) - (0 : Nat) - (0 : Nat) = t.ls.length := by omega
      rw [e]
      exact Int.mul_le_mul (by omega) (by omega) (by omega) (by omega)
    omega
  obtain ⟨N0, h1, h2⟩ := ex 20000 0 hT
  obtain ⟨N, h3, h4, h5⟩ := least (P := fun n => (wkN t plan op ps n).s.p = t.ls.sum) N0 h2
  exact ⟨N, fun n hn => h5 n hn, fun n hn => (inv n).wkOk ok oo po (by omega), fun n hn => ((inv n).choose ok oo po).wkOk ok oo po (by omega), h4, by omega⟩
end
end Rp
end
section
set_option Elab.async false
set_option linter.all false
set_option maxRecDepth 100000
set_option maxHeartbeats 4000000
namespace Rp
open PySem PySem.Spec PyProof.Rows L2
local macro_rules | `(tactic| walk_at "rd1") => `(tactic| with_reducible first
  | refine c_seq ?_ | refine c_asg ?_ | refine c_drop ?_ | refine c_ret ?_ | refine c_ifS ?_ | refine c_brk ?_ | refine c_name ?_
  | refine c_gcons ?_ | refine c_gnil ?_ | refine c_var (by with_unfolding_all rfl) ?_ | refine c_op ?_ | refine c_un ?_ | refine c_c ?_
  | refine c_I0 ?_ | refine c_U ?_ | refine c_ip ?_ | refine c_eqI ?_ | refine c_neI ?_ | refine c_test ?_ | refine c_tB ?_
  | refine c_not ?_ | refine c_and ?_ | refine c_or ?_ | refine c_andV ?_ | refine c_orV ?_ | refine c_notV ?_ | refine c_if ?_
  | refine c_cons ?_ | refine c_nil ?_ | refine c_tupN ?_ | refine c_lstN ?_ | refine c_CB ?_ | refine c_call ?_ | refine c_meth ?_ | refine c_fld ?_ | refine c_sfld ?_ | refine c_gfld ?_
  | refine c_aug (by with_unfolding_all rfl) ?_ | refine c_fldaug ?_ | refine c_sl ?_ | refine c_noPart ?_ | refine c_part ?_ | refine c_callN ?_ | refine c_bm ?_ | refine c_bm0 ?_ | refine c_make ?_ | refine c_makeK ?_ | refine c_asg2 ?_ | refine c_asg3 ?_ | refine c_itT ?_ | refine c_itN ?_ | refine c_itNT ?_ | refine c_itF ?_ | refine c_chain ?_ | refine c_next ?_ | refine ⟨_, (rfl : V.bl _ = V.bl _), ?_⟩ | refine ⟨_, (rfl : V.int _ = V.int _), ?_⟩)
local macro_rules | `(tactic| walk_at "rs1") => `(tactic| with_reducible first
  | refine c_seq ?_ | refine c_asg ?_ | refine c_drop ?_ | refine c_ret ?_ | refine c_brk ?_ | refine c_name ?_
  | refine c_gcons ?_ | refine c_gnil ?_ | refine c_var (by with_unfolding_all rfl) ?_ | refine c_op ?_ | refine c_un ?_ | refine c_c ?_
  | refine c_I0 ?_ | refine c_U ?_ | refine c_ip ?_ | refine c_eqI ?_ | refine c_neI ?_ | refine c_test ?_ | refine c_tB ?_
  | refine c_not ?_ | refine c_and ?_ | refine c_or ?_ | refine c_andV ?_ | refine c_orV ?_ | refine c_notV ?_ | refine c_if ?_
  | refine c_cons ?_ | refine c_nil ?_ | refine c_tupN ?_ | refine c_lstN ?_ | refine c_CB ?_ | refine c_call ?_ | refine c_meth ?_ | refine c_fld ?_ | refine c_sfld ?_ | refine c_gfld ?_
  | refine c_aug (by with_unfolding_all rfl) ?_ | refine c_fldaug ?_ | refine c_sl ?_ | refine c_noPart ?_ | refine c_part ?_ | refine c_callN ?_ | refine c_bm ?_ | refine c_bm0 ?_ | refine c_make ?_ | refine c_makeK ?_ | refine c_asg2 ?_ | refine c_asg3 ?_ | refine c_itT ?_ | refine c_itN ?_ | refine c_itNT ?_ | refine c_itF ?_ | refine c_chain ?_ | refine c_next ?_ | refine ⟨_, (rfl : V.bl _ = V.bl _), ?_⟩ | refine ⟨_, (rfl : V.int _ = V.int _), ?_⟩)
local macro_rules | `(tactic| walk_at "rd") => `(tactic| repeat walk_at "rd1")
local macro_rules | `(tactic| walk_at "rs") => `(tactic| repeat walk_at "rs1")

/-- the addresses of a player: itself, its notes -/
structure Pa where
  p : Addr
  l : Addr
def Pa.all (A : Pa) : List Addr := [A.p, A.l]
structure Pk where
  s : Sd
  fb : Int
  bg : Int
  rl : V
  sl : V
  nt : List (Str × Str)
def NtAt (K : PySem.W.Frag) (H : Hp) (ps : List Addr) (st : List (Str × Str)) : Prop := ps.length = st.length ∧ ∀ (i : Nat) p q, ps[i]? = some p → st[i]? = some q → SqT K H p [.str q.1, .str q.2]
def pkV (A : Pa) (ta lo sa : Addr) (W : Pk) : List V := [.ref ta, .ref lo, .ref sa, .int W.fb, .int W.bg, .int 0, W.rl, W.sl, .ref A.l]
structure PlayerAt (K : PySem.W.Frag) (H : Hp) (A : Pa) (ta : Addr) (op : Op) (W : Pk) : Prop where
  ob : ∃ dx lo sa, H A.p = some (.ins (He.ga K "Player") dx (kPlayer.zip (pkV A ta lo sa W))) ∧ SqT K H lo [.int op.b, .int op.a, .int op.m, .int op.w] ∧ SqT K H sa (sdV W.s)
  nt : ∃ ps : List Addr, H A.l = some (.lst (ps.map V.ref)) ∧ NtAt K H ps W.nt
  ne : A.p ≠ A.l
theorem fix_playerI (i : Nat) {C dx : Addr} {vs : List V} : fixO (.ins C dx ((kPlayer.take i).zip vs)) = false := by
  have h : ∀ ks : List Str, (∀ k ∈ ks, fixK.contains k = false) → ∀ vs : List V, (ks.zip vs).any (fun q => fixK.contains q.1) = false := by
    intro ks
    induction ks with
    | nil => intro _ vs; rfl
    | cons k ks ih =>
      intro hk vs
      cases vs with
      | nil => rfl
      | cons v vs =>
        rw [List.zip_cons_cons, List.any_cons, hk k List.mem_cons_self, ih (fun x hx => hk x (List.mem_cons_of_mem _ hx)) vs]
        rfl
  exact h _ (fun k hk => (show ∀ k ∈ kPlayer, fixK.contains k = false by decide +kernel) k (List.mem_of_mem_take hk)) vs
theorem fix_player {C dx : Addr} {vs : List V} : fixO (.ins C dx (kPlayer.zip vs)) = false := fix_playerI 9
section
variable {K : PySem.W.Frag} {mg : Str → Option Value} {S : List Addr} {H H' : Hp} {A : Pa} {ta : Addr} {op : Op} {W : Pk} {Q : VK} {q : Hp → Prop} {D : Ends} {σ : L2.St}
theorem NtAt.go {ps : List Addr} {st : List (Str × Str)} (h : NtAt K H ps st) (g : Go S H H') : NtAt K H' ps st := ⟨h.1, fun i p q e1 e2 => g.tup (h.2 i p q e1 e2)⟩
theorem PlayerAt.go (h : PlayerAt K H A ta op W) (g : Go S H H') (hd : ∀ a ∈ A.all, ¬ a ∈ S) : PlayerAt K H' A ta op W := by
  obtain ⟨dx, lo, sa, e1, e2, e3⟩ := h.ob
  obtain ⟨ps, p1, p2⟩ := h.nt
  exact ⟨⟨dx, lo, sa, g.chg _ _ e1 (hd _ (by simp [Pa.all])), g.tup e2, g.tup e3⟩, ⟨ps, g.chg _ _ p1 (hd _ (by simp [Pa.all])), p2.go g⟩, h.ne⟩
theorem PlayerAt.go0 (h : PlayerAt K H A ta op W) (g : Go [] H H') : PlayerAt K H' A ta op W := h.go g fun _ _ => by simp
theorem rp_talk_told (T : Txt K mg) (h : PlayerAt K H A ta op W) (k : Q (.ref ta) H) : FldR K "talk_told" (.ref A.p) H Q := by
  obtain ⟨dx, lo, sa, e1, e2, e3⟩ := h.ob
  exact f_Player_talk_told T e1 rfl k
theorem rp_fetch_beats (T : Txt K mg) (h : PlayerAt K H A ta op W) (k : Q (.int W.fb) H) : FldR K "fetch_beats" (.ref A.p) H Q := by
  obtain ⟨dx, lo, sa, e1, e2, e3⟩ := h.ob
  exact f_Player_fetch_beats T e1 rfl k
theorem rp_beats_gone (T : Txt K mg) (h : PlayerAt K H A ta op W) (k : Q (.int W.bg) H) : FldR K "beats_gone" (.ref A.p) H Q := by
  obtain ⟨dx, lo, sa, e1, e2, e3⟩ := h.ob
  exact f_Player_beats_gone T e1 rfl k
theorem rp_beats_thrown (T : Txt K mg) (h : PlayerAt K H A ta op W) (k : Q (.int 0) H) : FldR K "beats_thrown" (.ref A.p) H Q := by
  obtain ⟨dx, lo, sa, e1, e2, e3⟩ := h.ob
  exact f_Player_beats_thrown T e1 rfl k
theorem rp_rate_last (T : Txt K mg) (h : PlayerAt K H A ta op W) (k : Q (W.rl) H) : FldR K "rate_last" (.ref A.p) H Q := by
  obtain ⟨dx, lo, sa, e1, e2, e3⟩ := h.ob
  exact f_Player_rate_last T e1 rfl k
theorem rp_speed_last (T : Txt K mg) (h : PlayerAt K H A ta op W) (k : Q (W.sl) H) : FldR K "speed_last" (.ref A.p) H Q := by
  obtain ⟨dx, lo, sa, e1, e2, e3⟩ := h.ob
  exact f_Player_speed_last T e1 rfl k
theorem rp_deeds_noted (T : Txt K mg) (h : PlayerAt K H A ta op W) (k : Q (.ref A.l) H) : FldR K "deeds_noted" (.ref A.p) H Q := by
  obtain ⟨dx, lo, sa, e1, e2, e3⟩ := h.ob
  exact f_Player_deeds_noted T e1 rfl k
theorem rp_options_told (T : Txt K mg) (h : PlayerAt K H A ta op W) (k : ∀ lm, SqT K H lm [.int op.b, .int op.a, .int op.m, .int op.w] → Q (.ref lm) H) : FldR K "options_told" (.ref A.p) H Q := by
  obtain ⟨dx, lo, sa, e1, e2, e3⟩ := h.ob
  exact f_Player_options_told T e1 rfl (k lo e2)
theorem rp_stand_here (T : Txt K mg) (h : PlayerAt K H A ta op W) (k : ∀ sa, SqT K H sa (sdV W.s) → Q (.ref sa) H) : FldR K "stand_here" (.ref A.p) H Q := by
  obtain ⟨dx, lo, sa, e1, e2, e3⟩ := h.ob
  exact f_Player_stand_here T e1 rfl (k sa e3)
theorem rp_meth {m : Str} {sp : Sp} {dvs : List V} {E : XK} {tt : TA} (h : PlayerAt K H A ta op W) (hn : kPlayer.contains m = false) (k : tt σ H fun vs H2 => sp (.ref A.p :: (vs ++ dvs)) H2 Q E) : MethR (He.ga K "Player") m sp dvs E tt σ (.ref A.p) H Q := by
  obtain ⟨dx, lo, sa, e1, e2, e3⟩ := h.ob
  exact methR e1 hn k
theorem PlayerAt.obj {W' : Pk} {dx lo sa : Addr} (h : PlayerAt K H A ta op W) (e1 : H A.p = some (.ins (He.ga K "Player") dx (kPlayer.zip (pkV A ta lo sa W)))) {sa' : Addr} (e2 : SqT K H lo [.int op.b, .int op.a, .int op.m, .int op.w]) (e3 : SqT K H sa' (sdV W'.s)) (r1 : W'.nt = W.nt) :
    Go A.all H (upd H A.p (.ins (He.ga K "Player") dx (kPlayer.zip (pkV A ta lo sa' W')))) ∧ PlayerAt K (upd H A.p (.ins (He.ga K "Player") dx (kPlayer.zip (pkV A ta lo sa' W')))) A ta op W' := by
  have g : Go [A.p] H (upd H A.p (.ins (He.ga K "Player") dx (kPlayer.zip (pkV A ta lo sa' W')))) := Go.mut (by simp) e1 fix_player
  obtain ⟨ps, p1, p2⟩ := h.nt
  refine ⟨g.mono fun a ha => by rw [List.mem_singleton.mp ha]; exact List.mem_cons_self, ⟨⟨dx, lo, sa', upd_same, g.tup e2, g.tup e3⟩, ⟨ps, ?_, ?_⟩, h.ne⟩⟩
  · rw [upd_ne h.ne.symm]; exact p1
  · rw [r1]; exact p2.go g
theorem ps_stand {s' : Sd} {p : Addr} (T : Txt K mg) (h : PlayerAt K H A ta op W) (hp : SqT K H p (sdV s')) (k : ∀ H', Go A.all H H' → PlayerAt K H' A ta op { W with s := s' } → q H') : SetR K "stand_here" (.ref A.p) (.ref p) H q := by
  obtain ⟨dx, lo, sa, e1, e2, e3⟩ := h.ob
  have z := h.obj (W' := { W with s := s' }) (sa' := p) e1 e2 hp rfl
  exact s_Player_stand_here T e1 rfl (k _ z.1 z.2)
theorem ps_rate {v : V} (T : Txt K mg) (h : PlayerAt K H A ta op W) (k : ∀ H', Go A.all H H' → PlayerAt K H' A ta op { W with rl := v } → q H') : SetR K "rate_last" (.ref A.p) v H q := by
  obtain ⟨dx, lo, sa, e1, e2, e3⟩ := h.ob
  have z := h.obj (W' := { W with rl := v }) (sa' := sa) e1 e2 e3 rfl
  exact s_Player_rate_last T e1 rfl (k _ z.1 z.2)
theorem ps_speed {v : V} (T : Txt K mg) (h : PlayerAt K H A ta op W) (k : ∀ H', Go A.all H H' → PlayerAt K H' A ta op { W with sl := v } → q H') : SetR K "speed_last" (.ref A.p) v H q := by
  obtain ⟨dx, lo, sa, e1, e2, e3⟩ := h.ob
  have z := h.obj (W' := { W with sl := v }) (sa' := sa) e1 e2 e3 rfl
  exact s_Player_speed_last T e1 rfl (k _ z.1 z.2)
theorem ps_fetch {v : Int} (T : Txt K mg) (h : PlayerAt K H A ta op W) (k : ∀ H', Go A.all H H' → PlayerAt K H' A ta op { W with fb := v } → q H') : SetR K "fetch_beats" (.ref A.p) (.int v) H q := by
  obtain ⟨dx, lo, sa, e1, e2, e3⟩ := h.ob
  have z := h.obj (W' := { W with fb := v }) (sa' := sa) e1 e2 e3 rfl
  exact s_Player_fetch_beats T e1 rfl (k _ z.1 z.2)
theorem pa_bg {te : TE} {y : Int} (T : Txt K mg) (h : PlayerAt K H A ta op W) (ht : ∀ q : VK, q (.int y) H → te σ H q) (k : ∀ H', Go A.all H H' → PlayerAt K H' A ta op { W with bg := W.bg + y } → D.nx σ H') :
    ∃ a' C' dx fs v, V.ref A.p = .ref a' ∧ H a' = some (.ins C' dx fs) ∧ Cls K C' ∧ NoAttr K C' "beats_gone" ∧ fs.lookup ("beats_gone" : Str) = some v ∧ te σ H fun y H2 => rAdd v y H2 fun z H3 => ∃ dx' fs', H3 a' = some (.ins C' dx' fs') ∧ fs'.length < 1000 ∧ D.nx σ (upd H3 a' (.ins C' dx' (putF "beats_gone" z fs'))) := by
  obtain ⟨dx, lo, sa, e1, e2, e3⟩ := h.ob
  have z := h.obj (W' := { W with bg := W.bg + y }) (sa' := sa) e1 e2 e3 rfl
  exact augR (c_Player T) (na_Player_beats_gone T) kPlayer_nd (i := 4) (by rfl) e1 rfl (Nat.le_of_ble_eq_true rfl) ht (k _ z.1 z.2)
theorem pa_fb {te : TE} {y : Int} (T : Txt K mg) (h : PlayerAt K H A ta op W) (ht : ∀ q : VK, q (.int y) H → te σ H q) (k : ∀ H', Go A.all H H' → PlayerAt K H' A ta op { W with fb := W.fb + y } → D.nx σ H') :
    ∃ a' C' dx fs v, V.ref A.p = .ref a' ∧ H a' = some (.ins C' dx fs) ∧ Cls K C' ∧ NoAttr K C' "fetch_beats" ∧ fs.lookup ("fetch_beats" : Str) = some v ∧ te σ H fun y H2 => rAdd v y H2 fun z H3 => ∃ dx' fs', H3 a' = some (.ins C' dx' fs') ∧ fs'.length < 1000 ∧ D.nx σ (upd H3 a' (.ins C' dx' (putF "fetch_beats" z fs'))) := by
  obtain ⟨dx, lo, sa, e1, e2, e3⟩ := h.ob
  have z := h.obj (W' := { W with fb := W.fb + y }) (sa' := sa) e1 e2 e3 rfl
  exact augR (c_Player T) (na_Player_fetch_beats T) kPlayer_nd (i := 3) (by rfl) e1 rfl (Nat.le_of_ble_eq_true rfl) ht (k _ z.1 z.2)
theorem pa_note {x y : Str} {p : Addr} (h : PlayerAt K H A ta op W) (hp : SqT K H p [.str x, .str y]) (hl : W.nt.length < sizeLine) (k : ∀ H', Go A.all H H' → PlayerAt K H' A ta op { W with nt := W.nt ++ [(x, y)] } → Q .non H') : rAppend (.ref A.l) [.ref p] H Q := by
  obtain ⟨ps, p1, p2⟩ := h.nt
  have g : Go [A.l] H (upd H A.l (.lst (ps.map V.ref ++ [.ref p]))) := Go.mut (by simp) p1 rfl
  obtain ⟨dx, lo, sa, e1, e2, e3⟩ := h.ob
  have em : ps.map V.ref ++ [V.ref p] = (ps ++ [p]).map V.ref := by rw [List.map_append]; rfl
  rw [em] at g
  refine c_app p1 (by rw [List.length_map, p2.1]; exact hl) ?_
  rw [em]
  refine k _ (g.mono fun a ha => by rw [List.mem_singleton.mp ha]; simp [Pa.all]) ⟨⟨dx, lo, sa, ?_, g.tup e2, g.tup e3⟩, ⟨_, upd_same, ?_⟩, h.ne⟩
  · rw [upd_ne h.ne]
    exact e1
  · refine ⟨by rw [List.length_append, List.length_append, p2.1]; rfl, fun i a b ea eb => ?_⟩
    by_cases hi : i < ps.length
    · rw [List.getElem?_append_left hi] at ea
      rw [List.getElem?_append_left (by rw [← p2.1]; exact hi)] at eb
      exact g.tup (p2.2 i a b ea eb)
    · rw [List.getElem?_append_right (by omega)] at ea
      rw [List.getElem?_append_right (by rw [← p2.1]; omega), ← p2.1] at eb
      have hz : i - ps.length = 0 := by
        have := (List.getElem?_eq_some_iff.mp ea).1
        simp at this
        omega
      rw [hz] at ea eb
      cases ea
      cases eb
      exact g.tup hp
theorem np_talk_told (T : Txt K mg) {H : Hp} {a dx : Addr} {vs : List V} {v : V} {q : Hp → Prop} (h : H a = some (.ins (He.ga K "Player") dx ((kPlayer.take 0).zip vs))) (hv : vs.length = 0) (k : ∀ H', Go [a] H H' → H' a = some (.ins (He.ga K "Player") dx ((kPlayer.take 1).zip (vs ++ [v]))) → q H') : SetR K "talk_told" (.ref a) v H q :=
  n_Player_talk_told T h hv (k _ (Go.mut (by simp) h (fix_playerI 0)) upd_same)
theorem np_options_told (T : Txt K mg) {H : Hp} {a dx : Addr} {vs : List V} {v : V} {q : Hp → Prop} (h : H a = some (.ins (He.ga K "Player") dx ((kPlayer.take 1).zip vs))) (hv : vs.length = 1) (k : ∀ H', Go [a] H H' → H' a = some (.ins (He.ga K "Player") dx ((kPlayer.take 2).zip (vs ++ [v]))) → q H') : SetR K "options_told" (.ref a) v H q :=
  n_Player_options_told T h hv (k _ (Go.mut (by simp) h (fix_playerI 1)) upd_same)
theorem np_stand_here (T : Txt K mg) {H : Hp} {a dx : Addr} {vs : List V} {v : V} {q : Hp → Prop} (h : H a = some (.ins (He.ga K "Player") dx ((kPlayer.take 2).zip vs))) (hv : vs.length = 2) (k : ∀ H', Go [a] H H' → H' a = some (.ins (He.ga K "Player") dx ((kPlayer.take 3).zip (vs ++ [v]))) → q H') : SetR K "stand_here" (.ref a) v H q :=
  n_Player_stand_here T h hv (k _ (Go.mut (by simp) h (fix_playerI 2)) upd_same)
theorem np_fetch_beats (T : Txt K mg) {H : Hp} {a dx : Addr} {vs : List V} {v : V} {q : Hp → Prop} (h : H a = some (.ins (He.ga K "Player") dx ((kPlayer.take 3).zip vs))) (hv : vs.length = 3) (k : ∀ H', Go [a] H H' → H' a = some (.ins (He.ga K "Player") dx ((kPlayer.take 4).zip (vs ++ [v]))) → q H') : SetR K "fetch_beats" (.ref a) v H q :=
  n_Player_fetch_beats T h hv (k _ (Go.mut (by simp) h (fix_playerI 3)) upd_same)
theorem np_beats_gone (T : Txt K mg) {H : Hp} {a dx : Addr} {vs : List V} {v : V} {q : Hp → Prop} (h : H a = some (.ins (He.ga K "Player") dx ((kPlayer.take 4).zip vs))) (hv : vs.length = 4) (k : ∀ H', Go [a] H H' → H' a = some (.ins (He.ga K "Player") dx ((kPlayer.take 5).zip (vs ++ [v]))) → q H') : SetR K "beats_gone" (.ref a) v H q :=
  n_Player_beats_gone T h hv (k _ (Go.mut (by simp) h (fix_playerI 4)) upd_same)
theorem np_beats_thrown (T : Txt K mg) {H : Hp} {a dx : Addr} {vs : List V} {v : V} {q : Hp → Prop} (h : H a = some (.ins (He.ga K "Player") dx ((kPlayer.take 5).zip vs))) (hv : vs.length = 5) (k : ∀ H', Go [a] H H' → H' a = some (.ins (He.ga K "Player") dx ((kPlayer.take 6).zip (vs ++ [v]))) → q H') : SetR K "beats_thrown" (.ref a) v H q :=
  n_Player_beats_thrown T h hv (k _ (Go.mut (by simp) h (fix_playerI 5)) upd_same)
theorem np_rate_last (T : Txt K mg) {H : Hp} {a dx : Addr} {vs : List V} {v : V} {q : Hp → Prop} (h : H a = some (.ins (He.ga K "Player") dx ((kPlayer.take 6).zip vs))) (hv : vs.length = 6) (k : ∀ H', Go [a] H H' → H' a = some (.ins (He.ga K "Player") dx ((kPlayer.take 7).zip (vs ++ [v]))) → q H') : SetR K "rate_last" (.ref a) v H q :=
  n_Player_rate_last T h hv (k _ (Go.mut (by simp) h (fix_playerI 6)) upd_same)
theorem np_speed_last (T : Txt K mg) {H : Hp} {a dx : Addr} {vs : List V} {v : V} {q : Hp → Prop} (h : H a = some (.ins (He.ga K "Player") dx ((kPlayer.take 7).zip vs))) (hv : vs.length = 7) (k : ∀ H', Go [a] H H' → H' a = some (.ins (He.ga K "Player") dx ((kPlayer.take 8).zip (vs ++ [v]))) → q H') : SetR K "speed_last" (.ref a) v H q :=
  n_Player_speed_last T h hv (k _ (Go.mut (by simp) h (fix_playerI 7)) upd_same)
theorem np_deeds_noted (T : Txt K mg) {H : Hp} {a dx : Addr} {vs : List V} {v : V} {q : Hp → Prop} (h : H a = some (.ins (He.ga K "Player") dx ((kPlayer.take 8).zip vs))) (hv : vs.length = 8) (k : ∀ H', Go [a] H H' → H' a = some (.ins (He.ga K "Player") dx ((kPlayer.take 9).zip (vs ++ [v]))) → q H') : SetR K "deeds_noted" (.ref a) v H q :=
  n_Player_deeds_noted T h hv (k _ (Go.mut (by simp) h (fix_playerI 8)) upd_same)
end
end Rp
end
section
set_option Elab.async false
set_option linter.all false
set_option maxRecDepth 100000
set_option maxHeartbeats 4000000
namespace Rp
open PySem PySem.Spec PyProof.Rows L2
local macro_rules | `(tactic| walk_at "rd1") => `(tactic| with_reducible first
  | refine c_seq ?_ | refine c_asg ?_ | refine c_drop ?_ | refine c_ret ?_ | refine c_ifS ?_ | refine c_brk ?_ | refine c_name ?_
  | refine c_gcons ?_ | refine c_gnil ?_ | refine c_var (by with_unfolding_all rfl) ?_ | refine c_op ?_ | refine c_un ?_ | refine c_c ?_
  | refine c_I0 ?_ | refine c_U ?_ | refine c_ip ?_ | refine c_eqI ?_ | refine c_neI ?_ | refine c_test ?_ | refine c_tB ?_
  | refine c_not ?_ | refine c_and ?_ | refine c_or ?_ | refine c_andV ?_ | refine c_orV ?_ | refine c_notV ?_ | refine c_if ?_
  | refine c_cons ?_ | refine c_nil ?_ | refine c_tupN ?_ | refine c_lstN ?_ | refine c_CB ?_ | refine c_call ?_ | refine c_meth ?_ | refine c_fld ?_ | refine c_sfld ?_ | refine c_gfld ?_
  | refine c_aug (by with_unfolding_all rfl) ?_ | refine c_fldaug ?_ | refine c_sl ?_ | refine c_noPart ?_ | refine c_part ?_ | refine c_callN ?_ | refine c_bm ?_ | refine c_bm0 ?_ | refine c_make ?_ | refine c_makeK ?_ | refine c_asg2 ?_ | refine c_asg3 ?_ | refine c_itT ?_ | refine c_itN ?_ | refine c_itNT ?_ | refine c_itF ?_ | refine c_chain ?_ | refine c_next ?_ | refine ⟨_, (rfl : V.bl _ = V.bl _), ?_⟩ | refine ⟨_, (rfl : V.int _ = V.int _), ?_⟩)
local macro_rules | `(tactic| walk_at "rs1") => `(tactic| with_reducible first
  | refine c_seq ?_ | refine c_asg ?_ | refine c_drop ?_ | refine c_ret ?_ | refine c_brk ?_ | refine c_name ?_
  | refine c_gcons ?_ | refine c_gnil ?_ | refine c_var (by with_unfolding_all rfl) ?_ | refine c_op ?_ | refine c_un ?_ | refine c_c ?_
  | refine c_I0 ?_ | refine c_U ?_ | refine c_ip ?_ | refine c_eqI ?_ | refine c_neI ?_ | refine c_test ?_ | refine c_tB ?_
  | refine c_not ?_ | refine c_and ?_ | refine c_or ?_ | refine c_andV ?_ | refine c_orV ?_ | refine c_notV ?_ | refine c_if ?_
  | refine c_cons ?_ | refine c_nil ?_ | refine c_tupN ?_ | refine c_lstN ?_ | refine c_CB ?_ | refine c_call ?_ | refine c_meth ?_ | refine c_fld ?_ | refine c_sfld ?_ | refine c_gfld ?_
  | refine c_aug (by with_unfolding_all rfl) ?_ | refine c_fldaug ?_ | refine c_sl ?_ | refine c_noPart ?_ | refine c_part ?_ | refine c_callN ?_ | refine c_bm ?_ | refine c_bm0 ?_ | refine c_make ?_ | refine c_makeK ?_ | refine c_asg2 ?_ | refine c_asg3 ?_ | refine c_itT ?_ | refine c_itN ?_ | refine c_itNT ?_ | refine c_itF ?_ | refine c_chain ?_ | refine c_next ?_ | refine ⟨_, (rfl : V.bl _ = V.bl _), ?_⟩ | refine ⟨_, (rfl : V.int _ = V.int _), ?_⟩)
local macro_rules | `(tactic| walk_at "rd") => `(tactic| repeat walk_at "rd1")
local macro_rules | `(tactic| walk_at "rs") => `(tactic| repeat walk_at "rs1")

section
variable {P : Program} {w : World} {K : PySem.W.Frag} {mg : Str → Option Value} {base : Heap}
def pk0 : Pk := ⟨sd0, 0, 0, .non, .non, []⟩
def sp_Player_init (K : PySem.W.Frag) : Sp := fun vs H Q E => ∃ x dx ta t op, vs = [.ref x, .ref ta, .int op.b, .int op.a, .int op.m, .int op.w] ∧ H x = some (.ins (He.ga K "Player") dx []) ∧ TalkAt K H ta t ∧ (∀ l ∈ t.ls, l ≤ op.m) ∧
  ∀ H' A, A.p = x → Go [x] H H' → (∀ l ∈ A.all, l = x ∨ H l = none) → PlayerAt K H' A ta op pk0 → Q .non H'
theorem len_Player_init : ∀ vs H Q E, sp_Player_init K vs H Q E → vs.length = 6 := by
  intro vs H Q E h
  obtain ⟨x, dx, ta, t, op, rfl, _⟩ := h
  rfl
theorem bd_Player_init (T : Txt K mg) (cdv : Value) (A : Around) (outer : List Env) (s : Shared) (H : Hp) (vs : List V) (Q : VK) (E : XK) (hr : Room 2 (A.deeper (envOfC "Player.__init__" (defScope s_Player_init) s.heap.objs.size (He.ma K (He.ga K "Player") "__init__") cdv))) (h : (sp_Player_init K) vs H Q E) :
    ∃ t, PSs (cxOf CX0 P w K mg base ["self", "talk", "begin", "again", "most", "wait"] "Player.__init__" (defScope s_Player_init) (He.ma K (He.ga K "Player") "__init__") cdv A outer s H E).nox (defBody s_Player_init) t ∧ t { nx := fun _ H' => Q .non H', rt := Q } (start ["self", "talk", "begin", "again", "most", "wait"] vs) H := by
  refine ⟨_, (pss_cons (ps_expr (pe_callH (ok_look_room T) (hr.mono (by decide)) (by rfl) (g_look_room T) (pa_cons (pv 1) (pa_cons (pv 4) pa_nil))))
      (pss_cons (ps_fld (pv 0) (pv 1) rfl)
      (pss_cons (ps_fld (pv 0) (pe_tup (pa_cons (pv 2) (pa_cons (pv 3) (pa_cons (pv 4) (pa_cons (pv 5) pa_nil))))) rfl)
      (pss_cons (ps_fld (pv 0) (pe_callH0 (ok_first_stand T) (hr.mono (by decide)) (by rfl) (g_first_stand T)) rfl)
      (pss_cons (ps_asg3 pe_int (pg_fld (pv 0)) (pg_fld (pv 0)) (pg_fld (pv 0)))
      (pss_cons (ps_asg2 pe_non (pg_fld (pv 0)) (pg_fld (pv 0)))
      (pss_one (ps_fld (pv 0) (pe_lst pa_nil) rfl)))))))), ?_⟩
  obtain ⟨x, dx, ta, t, op, rfl, hx, ht, hm, hq⟩ := h
  walk_at "rd"
  refine ⟨ta, t, op.m, rfl, ht, hm, fun H1 g1 => ?_⟩
  replace hx := g1.chg _ _ hx (by simp)
  have g := g1.mono (S' := [x]) fun a z => by cases z
  walk_at "rd"
  refine np_talk_told T (vs := []) hx rfl fun H2 g2 hx => ?_
  replace g := g.trans' g2
  walk_at "rd"
  refine newTup fun lm H4 g4 _ hlm => ?_
  replace hx := g4.chg _ _ hx (by simp)
  replace g := g.trans0 g4
  walk_at "rd"
  refine np_options_told T hx rfl fun H5 g5 hx => ?_
  replace g := g.trans' g5
  replace hlm := sqT (K := K) (g5.fix _ _ hlm rfl)
  walk_at "rd"
  refine ⟨rfl, fun sa hsa => ?_⟩
  walk_at "rd"
  refine np_stand_here T hx rfl fun H8 g8 hx => ?_
  replace g := g.trans' g8
  walk_at "rd"
  refine np_fetch_beats T hx rfl fun H9 g9 hx => ?_
  replace g := g.trans' g9
  replace hsa := g9.tup (g8.tup hsa)
  replace hlm := g9.tup (g8.tup hlm)
  walk_at "rd"
  refine np_beats_gone T hx rfl fun H10 g10 hx => ?_
  replace g := g.trans' g10
  walk_at "rd"
  refine np_beats_thrown T hx rfl fun H11 g11 hx => ?_
  replace g := g.trans' g11
  replace hsa := g11.tup (g10.tup hsa)
  replace hlm := g11.tup (g10.tup hlm)
  walk_at "rd"
  refine np_rate_last T hx rfl fun H12 g12 hx => ?_
  replace g := g.trans' g12
  walk_at "rd"
  refine np_speed_last T hx rfl fun H13 g13 hx => ?_
  replace g := g.trans' g13
  replace hsa := g13.tup (g12.tup hsa)
  replace hlm := g13.tup (g12.tup hlm)
  walk_at "rd"
  refine newLst fun l1 J1 a1 f1 h1 => ?_
  have n1 : l1 ≠ x := fun z => by
    rw [z, hx] at f1
    cases f1
  have q1 : H l1 = none := g.free f1 (by simp [n1])
  replace hx := a1.chg _ _ hx (by simp)
  replace g := g.trans0 a1
  walk_at "rd"
  refine np_deeds_noted T hx rfl fun I1 b1 hx => ?_
  replace g := g.trans' b1
  replace hsa := b1.tup (a1.tup hsa)
  replace hlm := b1.tup (a1.tup hlm)
  replace h1 := b1.chg _ _ h1 (by simp [n1])
  refine hq _ ⟨x, l1⟩ rfl g (fun l hl => ?_) ⟨⟨dx, lm, sa, hx, hlm, hsa⟩, ⟨[], h1, rfl, fun i p q e _ => by simp at e⟩, n1.symm⟩
  simp only [Pa.all, List.mem_cons, List.not_mem_nil, or_false] at hl
  rcases hl with rfl | rfl
  · exact .inl rfl
  · exact .inr q1
theorem ok_Player_init (T : Txt K mg) : Has P w K mg base (2 + 1) (He.ma K (He.ga K "Player") "__init__") ["self", "talk", "begin", "again", "most", "wait"] [V.int 4, V.int 8, V.int 30, V.int 0] (sp_Player_init K) :=
  hasB_of (P := P) (w := w) (base := base) (k := 2) 2 (fd_Player_init T) sc_Player_init (fun z => nomatch z) rfl
    (fun _ _ _ _ _ _ us ks h1 h2 => match us, ks, h1, h2 with | [_, _], [_, _, _, _], _, _ => ⟨_, _, _, _, _, _, rfl, rfl, ⟨_, _, _, _, _, _, rfl, rfl, ⟨_, _, _, _, _, _, rfl, rfl, ⟨_, _, _, _, _, _, rfl, rfl, rfl⟩⟩⟩⟩) len_Player_init (bd_Player_init T)
def gv_Player_init_mba (vs zs : List V) : List V := vs ++ (zs.drop 1 ++ (zs.take 1 ++ [V.int 0]))
theorem ok_Player_init_mba (T : Txt K mg) : HasN P w K mg base (2 + 1) (He.ma K (He.ga K "Player") "__init__") ["self", "talk", "begin", "again", "most", "wait"] 2 ["most", "begin", "again"] gv_Player_init_mba (sp_Player_init K) :=
  hasN_of (P := P) (w := w) (base := base) (k := 2) 2 ["most", "begin", "again"] [("wait", V.int 0)] (fun us mv ws => us ++ (ws.drop 1 ++ (ws.take 1 ++ mv))) (fd_Player_init T) sc_Player_init (fun z => nomatch z) (by decide +kernel) (fun r1 r2 r3 => r1.append ((r3.drop 1).append ((r3.take 1).append r2)))
    (fun _ _ _ _ _ _ us mv ws h1 h2 h3 => match us, mv, ws, h1, h2, h3 with | [_, _], [_], [_, _, _], _, _, _ => ⟨_, _, _, _, _, _, rfl, rfl, rfl⟩) len_Player_init (bd_Player_init T)
def gv_Player_init_wamb (vs zs : List V) : List V := vs ++ (zs.drop 3 ++ ((zs.drop 1).take 2 ++ zs.take 1))
theorem ok_Player_init_wamb (T : Txt K mg) : HasN P w K mg base (2 + 1) (He.ma K (He.ga K "Player") "__init__") ["self", "talk", "begin", "again", "most", "wait"] 2 ["wait", "again", "most", "begin"] gv_Player_init_wamb (sp_Player_init K) :=
  hasN_of (P := P) (w := w) (base := base) (k := 2) 2 ["wait", "again", "most", "begin"] [] (fun us mv ws => us ++ (ws.drop 3 ++ ((ws.drop 1).take 2 ++ ws.take 1))) (fd_Player_init T) sc_Player_init (fun z => nomatch z) (by decide +kernel) (fun r1 r2 r3 => r1.append ((r3.drop 3).append (((r3.drop 1).take 2).append (r3.take 1))))
    (fun _ _ _ _ _ _ us mv ws h1 h2 h3 => match us, mv, ws, h1, h2, h3 with | [_, _], [], [_, _, _, _], _, _, _ => rfl) len_Player_init (bd_Player_init T)
def startsL (t : Tk) : List Int := (List.range (t.ls.length + 1)).map fun j => pre t j
def sp_Player_starts (K : PySem.W.Frag) : Sp := fun vs H Q E => ∃ A ta op W t R, vs = [.ref A.p] ∧ PlayerAt K H A ta op W ∧ TalkAt K H ta t ∧ TkOk t R ∧ ∀ H' l, Go [] H H' → H' l = some (.lst ((startsL t).map V.int)) → Q (.ref l) H'
theorem ok_Player_starts (T : Txt K mg) : Has P w K mg base (0 + 1) (He.ma K (He.ga K "Player") "starts") ["self"] [] (sp_Player_starts K) := by
  refine has_of (fd_Player_starts T) sc_Player_starts (fun _ _ _ _ _ _ us hl => match us, hl with | [_], _ => rfl) (fun vs H Q E h => ?_) fun cdv A outer s H vs Q E hr h => ⟨_, (pss_cons (ps_set (i := 1) sc_Player_starts.nd rfl (Or.inl rfl) (pe_lst (pa_cons pe_int pa_nil)))
      (pss_cons (ps_for PassesOwn.never rfl (pi_tup (pe_fld (pe_fld (pv 0) rfl) rfl)) (pg_name (i := 2) sc_Player_starts.nd rfl (Or.inl rfl)) (pss_one (ps_expr (pe_bm PySem.F.plainAttrs_list PySem.F.slot_list_append PySem.F.type_list_append mt_append (pv 1) (pa_cons (pe_op op_add (pe_ix ix_list (pv 1) (pe_un un_neg pe_int) (fun _ _ => rfl)) (pv 2)) pa_nil)))))
      (pss_one (ps_ret (pv 1))))), ?_⟩
  · obtain ⟨A, ta, op, W, t, R, rfl, _⟩ := h
    rfl
  obtain ⟨A, ta, op, W, t, R, rfl, hp, ht, ok, hq⟩ := h
  walk_at "rd"
  refine newLst fun l H1 g1 f1 h1 => ?_
  walk_at "rd"
  refine c_fld ?_
  refine c_fld ?_
  walk_at "rd"
  refine rp_talk_told T (hp.go0 g1) ?_
  refine r_lengths T (ht.go g1) fun z hz => ?_
  refine ⟨z, rfl, ⟨_, hz⟩, ?_⟩
  refine L2.for_it (walk_tup (xs := t.ls.map V.int)) (fun i σ' H' => Go [] H H' ∧ SqT K H' z (t.ls.map V.int) ∧ H' l = some (.lst (((List.range (i + 1)).map fun j => pre t j).map V.int)) ∧ σ'[1]? = some (some (.ref l)) ∧ σ'.length = 3) ⟨g1, hz, h1, rfl, rfl⟩ (fun i σ' H' _ z => z.2.1) (fun i x σ' H' H2 hi z y => ?_) fun σ' H' z => ?_
  · obtain ⟨g, hz, hl, s1, sl⟩ := z
    obtain ⟨rfl, hx⟩ := y
    have hi' : i < t.ls.length := by simpa using hi
    have ex : x = .int (t.l i) := by
      rw [List.getElem?_map, List.getElem?_eq_getElem hi'] at hx
      rw [Tk.l, List.getD_eq_getElem?_getD, List.getElem?_eq_getElem hi']
      exact (Option.some.inj hx).symm
    subst ex
    match σ', s1, sl with
    | [a0, a1, a2], s1, _ =>
    cases s1
    walk_at "rd"
    refine bmL hl ?_
    walk_at "rd"
    have er : ((List.range (i + 1)).map fun j => pre t j).map V.int = ((List.range i).map fun j => pre t j).map V.int ++ [.int (pre t i)] := by
      rw [List.range_succ, List.map_append, List.map_append]
      rfl
    refine c_ixL (sqL hl) (v := .int (pre t i)) (by rw [er]; exact atI_last _ _) ?_
    walk_at "rd"
    have hlen := ok.l1
    refine c_app hl (by
      rw [List.length_map, List.length_map, List.length_range]
      exact Nat.lt_of_le_of_lt (show i + 1 ≤ 100 by omega) (by decide)) ?_
    have g3 : Go [l] H2 (upd H2 l (.lst (((List.range (i + 1)).map fun j => pre t j).map V.int ++ [.int (pre t i + t.l i)]))) := Go.mut (by simp) hl rfl
    refine ⟨g.updF f1, g3.tup hz, ?_, rfl, rfl⟩
    have ep : pre t i + t.l i = pre t (i + 1) := (pre_succ hi').symm
    rw [upd_same, List.range_succ (n := i + 1), List.map_append, List.map_append, ep]
    rfl
  · obtain ⟨g, hz, hl, s1, sl⟩ := z
    match σ', s1, sl with
    | [a0, a1, a2], s1, _ =>
    cases s1
    walk_at "rd"
    rw [List.length_map] at hl
    exact hq _ _ g hl
def sp_Player_is_ended (K : PySem.W.Frag) : Sp := fun vs H Q E => ∃ A ta op W t R, vs = [.ref A.p] ∧ PlayerAt K H A ta op W ∧ TalkAt K H ta t ∧ TkOk t R ∧ ∀ H', Go [] H H' → Q (.bl (decide (W.s.p = t.ls.sum))) H'
theorem ok_Player_is_ended (T : Txt K mg) : Has P w K mg base (3 + 1) (He.ma K (He.ga K "Player") "is_ended") ["self"] [] (sp_Player_is_ended K) := by
  refine has_of (fd_Player_is_ended T) sc_Player_is_ended (fun _ _ _ _ _ _ us hl => match us, hl with | [_], _ => rfl) (fun vs H Q E h => ?_) fun cdv A outer s H vs Q E hr h => ⟨_, (pss_one (ps_ret (pe_callH (ok_is_over T) (hr.mono (by decide)) (by rfl) (g_is_over T) (pa_cons (pe_fld (pv 0) rfl) (pa_cons (pe_fld (pv 0) rfl) pa_nil))))), ?_⟩
  · obtain ⟨A, ta, op, W, t, R, rfl, _⟩ := h
    rfl
  obtain ⟨A, ta, op, W, t, R, rfl, hp, ht, ok, hq⟩ := h
  walk_at "rd"
  refine rp_talk_told T hp ?_
  walk_at "rd"
  refine rp_stand_here T hp fun sa hs => ?_
  walk_at "rd"
  exact ⟨ta, sa, t, R, W.s, rfl, ht, ok, hs, hq⟩
def sp_Player_does_ask (K : PySem.W.Frag) : Sp := fun vs H Q E => ∃ A ta op W t, vs = [.ref A.p] ∧ PlayerAt K H A ta op W ∧ TalkAt K H ta t ∧ (∀ l ∈ t.ls, l ≤ op.m) ∧ ∀ H', Go [] H H' → Q (.bl (asksB t op.m W.s)) H'
theorem ok_Player_does_ask (T : Txt K mg) : Has P w K mg base (3 + 1) (He.ma K (He.ga K "Player") "does_ask") ["self"] [] (sp_Player_does_ask K) := by
  refine has_of (fd_Player_does_ask T) sc_Player_does_ask (fun _ _ _ _ _ _ us hl => match us, hl with | [_], _ => rfl) (fun vs H Q E h => ?_) fun cdv A outer s H vs Q E hr h => ⟨_, (pss_one (ps_ret (pe_callNH (ok_asks_m T) (hr.mono (by decide)) (by rfl) (g_asks T) (pa_cons (pe_fld (pv 0) rfl) (pa_cons (pe_fld (pv 0) rfl) pa_nil)) (pk_cons (pe_ix ix_tup (pe_fld (pv 0) rfl) pe_int (fun _ _ => rfl)) pk_nil)))), ?_⟩
  · obtain ⟨A, ta, op, W, t, rfl, _⟩ := h
    rfl
  obtain ⟨A, ta, op, W, t, rfl, hp, ht, hm, hq⟩ := h
  walk_at "rd"
  refine rp_talk_told T hp ?_
  walk_at "rd"
  refine rp_stand_here T hp fun sa hs => ?_
  walk_at "rd"
  refine rp_options_told T hp fun lo hlo => ?_
  walk_at "rd"
  refine c_ixT hlo (i := 2) rfl ?_
  walk_at "rd"
  exact ⟨rfl, rfl, ta, sa, t, W.s, op.m, rfl, ht, hs, hm, hq⟩
def sp_Player_take (K : PySem.W.Frag) : Sp := fun vs H Q E => ∃ A ta op W r, vs = [.ref A.p, .int r] ∧ PlayerAt K H A ta op W ∧ ∀ H' W', Go A.all H H' → PlayerAt K H' A ta op W' → W'.s = chosenS op.w W.s r → W'.bg = W.bg → W'.nt = W.nt → Q .non H'
theorem ok_Player_take (T : Txt K mg) : Has P w K mg base (1 + 1) (He.ma K (He.ga K "Player") "take") ["self", "rate"] [] (sp_Player_take K) := by
  refine has_of (fd_Player_take T) sc_Player_take (fun _ _ _ _ _ _ us hl => match us, hl with | [_, _], _ => rfl) (fun vs H Q E h => ?_) fun cdv A outer s H vs Q E hr h => ⟨_, (pss_cons (ps_fld (pv 0) (pe_callNH (ok_chosen_w T) (hr.mono (by decide)) (by rfl) (g_chosen T) (pa_cons (pe_fld (pv 0) rfl) (pa_cons (pv 1) pa_nil)) (pk_cons (pe_ix ix_tup (pe_fld (pv 0) rfl) pe_int (fun _ _ => rfl)) pk_nil)) rfl)
      (pss_cons (ps_fld (pv 0) (pv 1) rfl)
      (pss_one (ps_fld (pv 0) pe_int rfl)))), ?_⟩
  · obtain ⟨A, ta, op, W, r, rfl, _⟩ := h
    rfl
  obtain ⟨A, ta, op, W, r, rfl, hp, hq⟩ := h
  walk_at "rd"
  refine rp_stand_here T hp fun sa hs => ?_
  walk_at "rd"
  refine rp_options_told T hp fun lo hlo => ?_
  walk_at "rd"
  refine c_ixT hlo (i := 3) rfl ?_
  walk_at "rd"
  refine ⟨rfl, rfl, sa, W.s, r, op.w, rfl, hs, fun H1 p g hs' => ?_⟩
  replace hp := hp.go0 g
  replace g := g.mono (S' := A.all) fun a z => by cases z
  walk_at "rd"
  refine ps_stand T hp hs' fun H2 g2 hp => ?_
  walk_at "rd"
  refine ps_rate T hp fun H3 g3 hp => ?_
  walk_at "rd"
  refine ps_fetch T hp fun H4 g4 hp => ?_
  exact hq _ _ (((g.trans' g2).trans' g3).trans' g4) hp rfl rfl rfl
def sp_Player_seen_now (K : PySem.W.Frag) : Sp := fun vs H Q E => ∃ A ta op W, vs = [.ref A.p] ∧ PlayerAt K H A ta op W ∧ ∀ H' p, Go [] H H' → SqT K H' p [.int (W.s.n : Int), .int W.s.k, W.rl, W.sl] → Q (.ref p) H'
theorem ok_Player_seen_now (T : Txt K mg) : Has P w K mg base (1 + 1) (He.ma K (He.ga K "Player") "seen_now") ["self"] [] (sp_Player_seen_now K) := by
  refine has_of (fd_Player_seen_now T) sc_Player_seen_now (fun _ _ _ _ _ _ us hl => match us, hl with | [_], _ => rfl) (fun vs H Q E h => ?_) fun cdv A outer s H vs Q E hr h => ⟨_, (pss_one (ps_ret (pe_callH (ok_seen_at T) (hr.mono (by decide)) (by rfl) (g_seen_at T) (pa_cons (pe_fld (pv 0) rfl) (pa_cons (pe_fld (pv 0) rfl) (pa_cons (pe_fld (pv 0) rfl) pa_nil)))))), ?_⟩
  · obtain ⟨A, ta, op, W, rfl, _⟩ := h
    rfl
  obtain ⟨A, ta, op, W, rfl, hp, hq⟩ := h
  walk_at "rd"
  refine rp_stand_here T hp fun sa hs => ?_
  walk_at "rd"
  refine rp_rate_last T hp ?_
  walk_at "rd"
  refine rp_speed_last T hp ?_
  walk_at "rd"
  exact ⟨sa, W.s, _, _, rfl, hs, hq⟩
def sp_Player_stand_now (K : PySem.W.Frag) : Sp := fun vs H Q E => ∃ A ta op W, vs = [.ref A.p] ∧ PlayerAt K H A ta op W ∧ ∀ p, SqT K H p (sdV W.s) → Q (.ref p) H
theorem ok_Player_stand_now (T : Txt K mg) : Has P w K mg base (0 + 1) (He.ma K (He.ga K "Player") "stand_now") ["self"] [] (sp_Player_stand_now K) := by
  refine has_of (fd_Player_stand_now T) sc_Player_stand_now (fun _ _ _ _ _ _ us hl => match us, hl with | [_], _ => rfl) (fun vs H Q E h => ?_) fun cdv A outer s H vs Q E hr h => ⟨_, (pss_one (ps_ret (pe_fld (pv 0) rfl))), ?_⟩
  · obtain ⟨A, ta, op, W, rfl, _⟩ := h
    rfl
  obtain ⟨A, ta, op, W, rfl, hp, hq⟩ := h
  walk_at "rd"
  exact rp_stand_here T hp fun sa hs => hq sa hs
def sp_Player_gone_by (K : PySem.W.Frag) : Sp := fun vs H Q E => ∃ A ta op W, vs = [.ref A.p] ∧ PlayerAt K H A ta op W ∧ Q (.int W.bg) H
theorem ok_Player_gone_by (T : Txt K mg) : Has P w K mg base (0 + 1) (He.ma K (He.ga K "Player") "gone_by") ["self"] [] (sp_Player_gone_by K) := by
  refine has_of (fd_Player_gone_by T) sc_Player_gone_by (fun _ _ _ _ _ _ us hl => match us, hl with | [_], _ => rfl) (fun vs H Q E h => ?_) fun cdv A outer s H vs Q E hr h => ⟨_, (pss_one (ps_ret (pe_fld (pv 0) rfl))), ?_⟩
  · obtain ⟨A, ta, op, W, rfl, _⟩ := h
    rfl
  obtain ⟨A, ta, op, W, rfl, hp, hq⟩ := h
  walk_at "rd"
  exact rp_beats_gone T hp hq
def sp_Player_thrown (K : PySem.W.Frag) : Sp := fun vs H Q E => ∃ A ta op W, vs = [.ref A.p] ∧ PlayerAt K H A ta op W ∧ Q (.int 0) H
theorem ok_Player_thrown (T : Txt K mg) : Has P w K mg base (0 + 1) (He.ma K (He.ga K "Player") "thrown") ["self"] [] (sp_Player_thrown K) := by
  refine has_of (fd_Player_thrown T) sc_Player_thrown (fun _ _ _ _ _ _ us hl => match us, hl with | [_], _ => rfl) (fun vs H Q E h => ?_) fun cdv A outer s H vs Q E hr h => ⟨_, (pss_one (ps_ret (pe_fld (pv 0) rfl))), ?_⟩
  · obtain ⟨A, ta, op, W, rfl, _⟩ := h
    rfl
  obtain ⟨A, ta, op, W, rfl, hp, hq⟩ := h
  walk_at "rd"
  exact rp_beats_thrown T hp hq
def sp_Player_notes (K : PySem.W.Frag) : Sp := fun vs H Q E => ∃ A ta op W, vs = [.ref A.p] ∧ PlayerAt K H A ta op W ∧ ∀ H' p ps, Go [] H H' → H' p = some (.tup (ps.map V.ref)) → NtAt K H' ps W.nt → Q (.ref p) H'
theorem ok_Player_notes (T : Txt K mg) : Has P w K mg base (0 + 1) (He.ma K (He.ga K "Player") "notes") ["self"] [] (sp_Player_notes K) := by
  refine has_of (fd_Player_notes T) sc_Player_notes (fun _ _ _ _ _ _ us hl => match us, hl with | [_], _ => rfl) (fun vs H Q E h => ?_) fun cdv A outer s H vs Q E hr h => ⟨_, (pss_one (ps_ret (pe_callTy call_tupR (by rfl) (b_tuple T) bt_tuple (pa_cons (pe_fld (pv 0) rfl) pa_nil)))), ?_⟩
  · obtain ⟨A, ta, op, W, rfl, _⟩ := h
    rfl
  obtain ⟨A, ta, op, W, rfl, hp, hq⟩ := h
  walk_at "rd"
  refine rp_deeds_noted T hp ?_
  walk_at "rd"
  obtain ⟨ps, p1, p2⟩ := hp.nt
  exact tupL p1 fun l H1 g1 _ h1 => hq _ _ ps g1 h1 (p2.go g1)
def sp_Player_pass_beat (K : PySem.W.Frag) : Sp := fun vs H Q E => ∃ A ta op W t R v, vs = [.ref A.p, .int v] ∧ PlayerAt K H A ta op W ∧ TalkAt K H ta t ∧ TkOk t R ∧ SI t R op W.s ∧ 0 ≤ v ∧ (∀ l ∈ t.ls, l ≤ op.m) ∧
  ∀ H' W', Go A.all H H' → PlayerAt K H' A ta op W' → W'.s = beatS t W.s v op.b op.a op.m → W'.bg = W.bg + 1 → W'.nt = W.nt → Q (if W.s.p < W'.s.p then .int W.s.p else .non) H'
theorem ok_Player_pass_beat (T : Txt K mg) : Has P w K mg base (5 + 1) (He.ma K (He.ga K "Player") "pass_beat") ["self", "speed"] [] (sp_Player_pass_beat K) := by
  refine has_of (fd_Player_pass_beat T) sc_Player_pass_beat (fun _ _ _ _ _ _ us hl => match us, hl with | [_, _], _ => rfl) (fun vs H Q E h => ?_) fun cdv A outer s H vs Q E hr h => ⟨_, (pss_cons (ps_asg (pe_fld (pv 0) rfl) (pg_tup (n := 4) rfl (pgs_cons (pg_name (i := 2) sc_Player_pass_beat.nd rfl (Or.inl rfl)) (pgs_cons (pg_name (i := 3) sc_Player_pass_beat.nd rfl (Or.inl rfl)) (pgs_cons (pg_name (i := 4) sc_Player_pass_beat.nd rfl (Or.inl rfl)) (pgs_cons (pg_name (i := 5) sc_Player_pass_beat.nd rfl (Or.inl rfl)) pgs_nil))))))
      (pss_cons (ps_asg (pe_fld (pv 0) rfl) (pg_tup (n := 6) rfl (pgs_cons (pg_name (i := 6) sc_Player_pass_beat.nd rfl (Or.inl rfl)) (pgs_cons (pg_name (i := 7) sc_Player_pass_beat.nd rfl (Or.inl rfl)) (pgs_cons (pg_name (i := 8) sc_Player_pass_beat.nd rfl (Or.inl rfl)) (pgs_cons (pg_name (i := 9) sc_Player_pass_beat.nd rfl (Or.inl rfl)) (pgs_cons (pg_name (i := 10) sc_Player_pass_beat.nd rfl (Or.inl rfl)) (pgs_cons (pg_name (i := 11) sc_Player_pass_beat.nd rfl (Or.inl rfl)) pgs_nil))))))))
      (pss_cons (ps_set (i := 12) sc_Player_pass_beat.nd rfl (Or.inl rfl) (pe_callNH (ok_gone_bam T) (hr.mono (by decide)) (by rfl) (g_gone T) (pa_cons (pe_fld (pv 0) rfl) (pa_cons (pe_fld (pv 0) rfl) (pa_cons (pv 1) pa_nil))) (pk_cons (pv 2) (pk_cons (pv 3) (pk_cons (pv 4) pk_nil)))))
      (pss_cons (ps_fldaug (pv 0) pe_int in_add)
      (pss_cons (ps_fldaug (pv 0) pe_int in_add)
      (pss_cons (ps_if (pt_cmpR op_gt (pe_ix ix_tup (pv 12) pe_int (fun _ _ => rfl)) (pv 6) (nomark _)) (pss_cons (ps_fld (pv 0) (pe_makeH (mk_Speed T) (ok_Speed_init T) (hr.mono (by decide)) (by rfl) (g_Speed T) (pa_cons (pe_ix ix_tup (pe_ix ix_tup (pe_fld (pe_fld (pv 0) rfl) rfl) (pv 6) (fun _ _ => rfl)) (pv 7) (fun _ _ => rfl)) (pa_cons (pe_fld (pv 0) rfl) pa_nil))) rfl)
      (pss_one (ps_set (i := 12) sc_Player_pass_beat.nd rfl (Or.inl rfl) (pe_op op_catA (pe_op op_catA (pe_slice sl_tupA (pv 12) po_none (po_some pe_int)) (pe_tup (pa_cons (pe_op op_sub (pe_ix ix_list (pe_methH0 (ok_Player_starts T) (c_Player T) (m_Player_starts T) (hr.mono (by decide)) (pv 0)) (pe_ix ix_tup (pv 12) pe_int (fun _ _ => rfl)) (fun _ _ => rfl)) (pe_ix ix_tup (pv 12) pe_int (fun _ _ => rfl))) pa_nil))) (pe_slice sl_tupA (pv 12) (po_some pe_int) po_none))))) pss_nil)
      (pss_cons (ps_fld (pv 0) (pv 12) rfl)
      (pss_one (ps_ret (pe_ifExp (pt_cmpR op_gt (pe_ix ix_tup (pv 12) pe_int (fun _ _ => rfl)) (pv 10) (nomark _)) (pv 10) pe_non)))))))))), ?_⟩
  · obtain ⟨A, ta, op, W, t, R, v, rfl, _⟩ := h
    rfl
  obtain ⟨A, ta, op, W, t, R, v, rfl, hp, ht, ok, si, hv, hm, hq⟩ := h
  walk_at "rd"
  refine rp_options_told T hp fun lo hlo => ?_
  refine c_tupG hlo rfl ?_
  walk_at "rd"
  refine rp_stand_here T hp fun sa hs => ?_
  refine c_sd6 hs ?_
  walk_at "rd"
  refine rp_talk_told T hp ?_
  walk_at "rd"
  refine rp_stand_here T hp fun sa hs => ?_
  walk_at "rd"
  refine ⟨rfl, rfl, ta, sa, t, W.s, v, op.b, op.a, op.m, R, rfl, ht, hs, ok, si.ok, hm, fun H1 sb g hs' => ?_⟩
  have si' := si.beat ok hv
  have hnc := beat_n_cases (t := t) (s := W.s) v op.b op.a op.m
  generalize he : beatS t W.s v op.b op.a op.m = s' at hs' hq si' hnc
  replace hp := hp.go0 g
  replace ht := ht.go g
  replace g := g.mono (S' := A.all) fun a z => by cases z
  walk_at "rd"
  refine pa_bg T hp (fun q hq => hq) fun H2 g2 hp => ?_
  walk_at "rd"
  refine pa_fb T hp (fun q hq => hq) fun H3 g3 hp => ?_
  have g4 := g2.trans' g3
  replace hs' := g4.tup hs'
  replace ht := ht.go g4
  replace g := g.trans' g4
  with_reducible refine c_seqC (fun σ' H' => σ'[0]? = some (some (.ref A.p)) ∧ σ'[10]? = some (some (.int W.s.p)) ∧ (∃ sb, σ'[12]? = some (some (.ref sb)) ∧ SqT K H' sb (sdV s')) ∧ σ'.length = 13 ∧ Go A.all H H' ∧ ∃ W', PlayerAt K H' A ta op W' ∧ W'.bg = W.bg + 1 ∧ W'.nt = W.nt) (fun σ' H4 z => ?_) fun N hN => ?_
  · obtain ⟨s0, s10, ⟨sb, s12, hsb⟩, sl, g, W', hp, e1, e2⟩ := z
    match σ', s0, s10, s12, sl with
    | [a0, a1, a2, a3, a4, a5, a6, a7, a8, a9, a10, a11, a12], s0, s10, s12, _ =>
    cases s0
    cases s10
    cases s12
    walk_at "rd"
    refine ps_stand T hp hsb fun H5 g5 hp => ?_
    walk_at "rd"
    refine c_ixT (g5.tup hsb) (i := 4) rfl ?_
    walk_at "rd"
    refine ifd (fun h1 => ?_) fun h1 => ?_
    · walk_at "rd"
      have z := hq _ _ (g.trans' g5) hp rfl e1 e2
      rw [if_pos h1] at z
      exact z
    · walk_at "rd"
      have z := hq _ _ (g.trans' g5) hp rfl e1 e2
      rw [if_neg h1] at z
      exact z
  · walk_at "rd"
    refine c_ixT hs' (i := 0) rfl ?_
    walk_at "rd"
    refine ifd (fun h1 => ?_) fun h1 => ?_
    · have h1 : W.s.n < s'.n := by
        have z : (W.s.n : Int) < (s'.n : Int) := h1
        omega
      have hc1 : W.s.c ≠ -1 := by
        rcases hnc with ⟨z, _⟩ | ⟨_, z, _⟩
        · omega
        · exact z
      obtain ⟨hc0, hcR, hn⟩ := si.ok.c.resolve_left hc1
      obtain ⟨row, hrow⟩ : ∃ row, t.zs[W.s.n]? = some row := ⟨_, List.getElem?_eq_getElem (by rw [ok.zl]; exact hn)⟩
      have hlen := ok.rl _ (List.mem_of_getElem? hrow)
      have hci : ((W.s.c.toNat : Nat) : Int) = W.s.c := Int.toNat_of_nonneg hc0
      have hcc : atI (row.map V.int) W.s.c = some (.int (row.getD W.s.c.toNat 0)) := by
        have z := atI_map (l := row) (i := W.s.c.toNat) (by omega)
        rw [hci] at z
        exact z
      walk_at "rd"
      refine rp_talk_told T hp ?_
      refine r_sizes T ht fun z rs hz hrs => ?_
      obtain ⟨r, hr2⟩ : ∃ r, rs[W.s.n]? = some r := ⟨_, List.getElem?_eq_getElem (by rw [hrs.1, ok.zl]; exact hn)⟩
      walk_at "rd"
      refine c_ixT hz (atI_ref hr2) ?_
      walk_at "rd"
      refine c_ixT (hrs.2 _ _ _ hr2 hrow) hcc ?_
      walk_at "rd"
      refine rp_fetch_beats T hp ?_
      walk_at "rd"
      intro x dx hx hdx hne
      refine ⟨x, dx, _, _, rfl, upd_same, fun H7 g7 => ⟨rfl, ?_⟩⟩
      have g8 := go_init hx hdx hne g7
      replace hp := hp.go0 g8
      replace hs' := g8.tup hs'
      replace g := g.trans0 g8
      replace ht := ht.go g8
      walk_at "rd"
      refine ps_speed T hp fun H9 g9 hp => ?_
      replace hs' := g9.tup hs'
      replace g := g.trans' g9
      replace ht := ht.go g9
      have hn' : s'.n ≤ t.ls.length := si'.ok.n
      have hst : atI ((startsL t).map V.int) ((s'.n : Nat) : Int) = some (.int (pre t s'.n)) := by
        refine atI_nat ?_
        rw [startsL, List.getElem?_map, List.getElem?_map, List.getElem?_range (by omega)]
        rfl
      walk_at "rd"
      refine c_slA hs' (fun p1 J1 j1 hp1 => ?_) (fun z => by
        have z2 : (3 : Nat) = 6 := z.2
        omega)
      replace hp := hp.go0 j1
      replace hs' := j1.tup hs'
      replace g := g.trans0 j1
      replace ht := ht.go j1
      walk_at "rd"
      refine rp_meth hp rfl ?_
      walk_at "rd"
      refine ⟨A, ta, op, _, t, R, rfl, hp, ht, ok, fun J2 l j2 hl => ?_⟩
      replace hp := hp.go0 j2
      replace hs' := j2.tup hs'
      replace hp1 := j2.tup hp1
      replace g := g.trans0 j2
      walk_at "rd"
      refine c_ixT hs' (i := 0) rfl ?_
      walk_at "rd"
      refine c_ixL (sqL hl) hst ?_
      walk_at "rd"
      refine c_ixT hs' (i := 4) rfl ?_
      walk_at "rd"
      refine newTup fun p3 J3 j3 _ hp3 => ?_
      replace hp := hp.go0 j3
      replace hs' := j3.tup hs'
      replace hp1 := j3.tup hp1
      replace g := g.trans0 j3
      refine c_catA hp1 (sqT hp3) (Nat.le_of_ble_eq_true rfl) fun p4 J4 j4 hp4 => ?_
      replace hp := hp.go0 j4
      replace hs' := j4.tup hs'
      replace g := g.trans0 j4
      walk_at "rd"
      refine c_slA hs' (fun p5 J5 j5 hp5 => ?_) (fun z => by
        have z2 : (4 : Nat) = 0 := z.1
        omega)
      replace hp := hp.go0 j5
      replace hp4 := j5.tup hp4
      replace g := g.trans0 j5
      refine c_catA hp4 hp5 (Nat.le_of_ble_eq_true rfl) fun p6 J6 j6 hp6 => ?_
      replace hp := hp.go0 j6
      replace g := g.trans0 j6
      walk_at "rd"
      refine hN _ _ ⟨rfl, rfl, ⟨p6, rfl, ?_⟩, rfl, g, _, hp, rfl, rfl⟩
      have ek : pre t s'.n - s'.p = s'.k := by
        have := si'.kp
        omega
      have e9 : sdV s' = (cutV (sdV s') none (some 3) ++ [.int (pre t s'.n - s'.p)]) ++ cutV (sdV s') (some 4) none := by
        rw [ek]
        rfl
      rw [e9]
      exact hp6
    · walk_at "rd"
      exact hN _ _ ⟨rfl, rfl, ⟨sb, rfl, hs'⟩, rfl, g, _, hp, rfl, rfl⟩
end
end Rp
end
section
set_option Elab.async false
set_option linter.all false
set_option maxRecDepth 100000
set_option maxHeartbeats 4000000
namespace Rp
open PySem PySem.Spec PyProof.Rows L2
local macro_rules | `(tactic| walk_at "rd1") => `(tactic| with_reducible first
  | refine c_seq ?_ | refine c_asg ?_ | refine c_drop ?_ | refine c_ret ?_ | refine c_ifS ?_ | refine c_brk ?_ | refine c_name ?_
  | refine c_gcons ?_ | refine c_gnil ?_ | refine c_var (by with_unfolding_all rfl) ?_ | refine c_op ?_ | refine c_un ?_ | refine c_c ?_
  | refine c_I0 ?_ | refine c_U ?_ | refine c_ip ?_ | refine c_eqI ?_ | refine c_neI ?_ | refine c_test ?_ | refine c_tB ?_
  | refine c_not ?_ | refine c_and ?_ | refine c_or ?_ | refine c_andV ?_ | refine c_orV ?_ | refine c_notV ?_ | refine c_if ?_
  | refine c_cons ?_ | refine c_nil ?_ | refine c_tupN ?_ | refine c_lstN ?_ | refine c_CB ?_ | refine c_call ?_ | refine c_meth ?_ | refine c_fld ?_ | refine c_sfld ?_ | refine c_gfld ?_
  | refine c_aug (by with_unfolding_all rfl) ?_ | refine c_fldaug ?_ | refine c_sl ?_ | refine c_noPart ?_ | refine c_part ?_ | refine c_callN ?_ | refine c_bm ?_ | refine c_bm0 ?_ | refine c_make ?_ | refine c_makeK ?_ | refine c_asg2 ?_ | refine c_asg3 ?_ | refine c_itT ?_ | refine c_itN ?_ | refine c_itNT ?_ | refine c_itF ?_ | refine c_chain ?_ | refine c_next ?_ | refine ⟨_, (rfl : V.bl _ = V.bl _), ?_⟩ | refine ⟨_, (rfl : V.int _ = V.int _), ?_⟩)
local macro_rules | `(tactic| walk_at "rs1") => `(tactic| with_reducible first
  | refine c_seq ?_ | refine c_asg ?_ | refine c_drop ?_ | refine c_ret ?_ | refine c_brk ?_ | refine c_name ?_
  | refine c_gcons ?_ | refine c_gnil ?_ | refine c_var (by with_unfolding_all rfl) ?_ | refine c_op ?_ | refine c_un ?_ | refine c_c ?_
  | refine c_I0 ?_ | refine c_U ?_ | refine c_ip ?_ | refine c_eqI ?_ | refine c_neI ?_ | refine c_test ?_ | refine c_tB ?_
  | refine c_not ?_ | refine c_and ?_ | refine c_or ?_ | refine c_andV ?_ | refine c_orV ?_ | refine c_notV ?_ | refine c_if ?_
  | refine c_cons ?_ | refine c_nil ?_ | refine c_tupN ?_ | refine c_lstN ?_ | refine c_CB ?_ | refine c_call ?_ | refine c_meth ?_ | refine c_fld ?_ | refine c_sfld ?_ | refine c_gfld ?_
  | refine c_aug (by with_unfolding_all rfl) ?_ | refine c_fldaug ?_ | refine c_sl ?_ | refine c_noPart ?_ | refine c_part ?_ | refine c_callN ?_ | refine c_bm ?_ | refine c_bm0 ?_ | refine c_make ?_ | refine c_makeK ?_ | refine c_asg2 ?_ | refine c_asg3 ?_ | refine c_itT ?_ | refine c_itN ?_ | refine c_itNT ?_ | refine c_itF ?_ | refine c_chain ?_ | refine c_next ?_ | refine ⟨_, (rfl : V.bl _ = V.bl _), ?_⟩ | refine ⟨_, (rfl : V.int _ = V.int _), ?_⟩)
local macro_rules | `(tactic| walk_at "rd") => `(tactic| repeat walk_at "rd1")
local macro_rules | `(tactic| walk_at "rs") => `(tactic| repeat walk_at "rs1")

section
variable {P : Program} {w : World} {K : PySem.W.Frag} {mg : Str → Option Value} {base : Heap}
theorem TalkAt.goA {S : List Addr} {H H' : Hp} {a : Addr} {t : Tk} (h : TalkAt K H a t) (g : Go S H H') : TalkAt K H' a t := h.go g
def sp_Player_choose (K : PySem.W.Frag) : Sp := fun vs H Q E => ∃ A ta op W t R r, vs = [.ref A.p, .int r] ∧ PlayerAt K H A ta op W ∧ TalkAt K H ta t ∧ TkOk t R ∧ (∀ l ∈ t.ls, l ≤ op.m) ∧ asksB t op.m W.s = true ∧ (0 ≤ r ∧ r < R) ∧ W.nt.length < sizeLine ∧
  ∀ H' W', Go A.all H H' → PlayerAt K H' A ta op W' → W'.s = chosenS op.w W.s r → W'.bg = W.bg → W'.nt = W.nt ++ [(("choose" : Str), ("done" : Str))] → Q .non H'
theorem ok_Player_choose (T : Txt K mg) : Has P w K mg base (4 + 1) (He.ma K (He.ga K "Player") "choose") ["self", "rate"] [] (sp_Player_choose K) := by
  refine has_of (fd_Player_choose T) sc_Player_choose (fun _ _ _ _ _ _ us hl => match us, hl with | [_, _], _ => rfl) (fun vs H Q E h => ?_) fun cdv A outer s H vs Q E hr h => ⟨_, (pss_cons (ps_set (i := 2) sc_Player_choose.nd rfl (Or.inl rfl) pe_str)
      (pss_one (ps_finN (pss_cons (ps_if (pt_not (pt_val (pe_methH0 (ok_Player_does_ask T) (c_Player T) (m_Player_does_ask T) (hr.mono (by decide)) (pv 0)))) (pss_one ps_never) pss_nil)
      (pss_cons (ps_set (i := 2) sc_Player_choose.nd rfl (Or.inl rfl) pe_str)
      (pss_cons (ps_if (pt_not (pt_val (pe_callH (ok_is_rate T) (hr.mono (by decide)) (by rfl) (g_is_rate T) (pa_cons (pe_fld (pv 0) rfl) (pa_cons (pv 1) pa_nil))))) (pss_one ps_never) pss_nil)
      (pss_cons (ps_expr (pe_methH (ok_Player_take T) (c_Player T) (m_Player_take T) (hr.mono (by decide)) (pv 0) (pa_cons (pv 1) pa_nil)))
      (pss_one (ps_set (i := 2) sc_Player_choose.nd rfl (Or.inl rfl) pe_str)))))) (pss_one (ps_expr (pe_bm PySem.F.plainAttrs_list PySem.F.slot_list_append PySem.F.type_list_append mt_append (pe_fld (pv 0) rfl) (pa_cons (pe_tup (pa_cons pe_str (pa_cons (pv 2) pa_nil))) pa_nil))))))), ?_⟩
  · obtain ⟨A, ta, op, W, t, R, r, rfl, _⟩ := h
    rfl
  obtain ⟨A, ta, op, W, t, R, r, rfl, hp, ht, ok, hm, ha, hr0, hl, hq⟩ := h
  walk_at "rd"
  refine rp_meth hp rfl ?_
  walk_at "rd"
  refine ⟨A, ta, op, W, t, rfl, hp, ht, hm, fun H1 g => ?_⟩
  replace hp := hp.go0 g
  replace ht := ht.go g
  replace g := g.mono (S' := A.all) fun a z => by cases z
  rw [ha]
  walk_at "rd"
  refine rp_talk_told T hp ?_
  walk_at "rd"
  refine ⟨ta, r, t, R, rfl, ht, ok, fun H2 g2 => ?_⟩
  replace hp := hp.go0 g2
  replace g := g.trans0 g2
  rw [decide_eq_true hr0]
  walk_at "rd"
  refine rp_meth hp rfl ?_
  walk_at "rd"
  refine ⟨A, ta, op, W, r, rfl, hp, fun H3 W3 g3 hp e1 e2 e3 => ?_⟩
  replace g := g.trans' g3
  walk_at "rd"
  refine rp_deeds_noted T hp ?_
  obtain ⟨ps, p1, p2⟩ := hp.nt
  refine bmL p1 ?_
  walk_at "rd"
  refine newTup fun p4 H4 g4 _ h4 => ?_
  replace hp := hp.go0 g4
  replace g := g.trans0 g4
  walk_at "rd"
  refine pa_note hp (sqT h4) (by rw [e3]; exact hl) fun H5 g5 hp => ?_
  refine hq _ _ (g.trans' g5) hp e1 e2 ?_
  show W3.nt ++ _ = _
  rw [e3]
def sp_Player_beat (K : PySem.W.Frag) : Sp := fun vs H Q E => ∃ A ta op W t R v, vs = [.ref A.p, .int v] ∧ PlayerAt K H A ta op W ∧ TalkAt K H ta t ∧ TkOk t R ∧ SI t R op W.s ∧ 0 ≤ v ∧ (∀ l ∈ t.ls, l ≤ op.m) ∧ asksB t op.m W.s = false ∧ W.s.p ≠ t.ls.sum ∧ W.nt.length < sizeLine ∧
  ∀ H' W', Go A.all H H' → PlayerAt K H' A ta op W' → W'.s = beatS t W.s v op.b op.a op.m → W'.bg = W.bg + 1 → W'.nt = W.nt ++ [(("beat" : Str), ("done" : Str))] → Q (if W.s.p < W'.s.p then .int W.s.p else .non) H'
theorem ok_Player_beat (T : Txt K mg) : Has P w K mg base (6 + 1) (He.ma K (He.ga K "Player") "beat") ["self", "speed"] [] (sp_Player_beat K) := by
  refine has_of (fd_Player_beat T) sc_Player_beat (fun _ _ _ _ _ _ us hl => match us, hl with | [_, _], _ => rfl) (fun vs H Q E h => ?_) fun cdv A outer s H vs Q E hr h => ⟨_, (pss_cons (ps_set (i := 2) sc_Player_beat.nd rfl (Or.inl rfl) pe_str)
      (pss_cons (ps_finN (pss_cons (ps_if (PW.pt (pw_or (pt_val (pe_methH0 (ok_Player_does_ask T) (c_Player T) (m_Player_does_ask T) (hr.mono (by decide)) (pv 0))) (pw_or1 (pt_val (pe_methH0 (ok_Player_is_ended T) (c_Player T) (m_Player_is_ended T) (hr.mono (by decide)) (pv 0)))))) (pss_one ps_never) pss_nil)
      (pss_cons (ps_set (i := 2) sc_Player_beat.nd rfl (Or.inl rfl) pe_str)
      (pss_cons (ps_if (pt_not (pt_val (pe_callH (ok_is_pace T) (hr.mono (by decide)) (by rfl) (g_is_pace T) (pa_cons (pv 1) pa_nil)))) (pss_one ps_never) pss_nil)
      (pss_cons (ps_set (i := 3) sc_Player_beat.nd rfl (Or.inl rfl) (pe_methH (ok_Player_pass_beat T) (c_Player T) (m_Player_pass_beat T) (hr.mono (by decide)) (pv 0) (pa_cons (pv 1) pa_nil)))
      (pss_one (ps_set (i := 2) sc_Player_beat.nd rfl (Or.inl rfl) pe_str)))))) (pss_one (ps_expr (pe_bm PySem.F.plainAttrs_list PySem.F.slot_list_append PySem.F.type_list_append mt_append (pe_fld (pv 0) rfl) (pa_cons (pe_tup (pa_cons pe_str (pa_cons (pv 2) pa_nil))) pa_nil)))))
      (pss_one (ps_ret (pv 3))))), ?_⟩
  · obtain ⟨A, ta, op, W, t, R, v, rfl, _⟩ := h
    rfl
  obtain ⟨A, ta, op, W, t, R, v, rfl, hp, ht, ok, si, hv, hm, ha, hne, hl, hq⟩ := h
  walk_at "rd"
  refine rp_meth hp rfl ?_
  walk_at "rd"
  refine ⟨A, ta, op, W, t, rfl, hp, ht, hm, fun H1 g => ?_⟩
  replace hp := hp.go0 g
  replace ht := ht.go g
  replace g := g.mono (S' := A.all) fun a z => by cases z
  rw [ha]
  walk_at "rd"
  refine rp_meth hp rfl ?_
  walk_at "rd"
  refine ⟨A, ta, op, W, t, R, rfl, hp, ht, ok, fun H2 g2 => ?_⟩
  replace hp := hp.go0 g2
  replace ht := ht.go g2
  replace g := g.trans0 g2
  rw [decide_eq_false hne]
  walk_at "rd"
  refine ⟨v, rfl, ?_⟩
  rw [decide_eq_true hv]
  walk_at "rd"
  refine rp_meth hp rfl ?_
  walk_at "rd"
  refine ⟨A, ta, op, W, t, R, v, rfl, hp, ht, ok, si, hv, hm, fun H3 W3 g3 hp e1 e2 e3 => ?_⟩
  replace g := g.trans' g3
  walk_at "rd"
  refine rp_deeds_noted T hp ?_
  obtain ⟨ps, p1, p2⟩ := hp.nt
  refine bmL p1 ?_
  walk_at "rd"
  refine newTup fun p4 H4 g4 _ h4 => ?_
  replace hp := hp.go0 g4
  replace g := g.trans0 g4
  walk_at "rd"
  refine pa_note hp (sqT h4) (by rw [e3]; exact hl) fun H5 g5 hp => ?_
  walk_at "rd"
  refine hq _ { W3 with nt := W3.nt ++ [(("beat" : Str), ("done" : Str))] } (g.trans' g5) hp e1 e2 ?_
  show W3.nt ++ _ = _
  rw [e3]
/-! ### over -/
def chS (t : Tk) (op : Op) (plan : List Int) (s : Sd) : Sd := if asksB t op.m s = true then chosenS op.w s (plan.getD s.n 0) else s
def ov (t : Tk) (op : Op) (plan : List Int) : List Int → Sd → Sd × Nat
  | [], s => (s, 0)
  | v :: r, s => if s.p = t.ls.sum then (s, 0) else ((ov t op plan r (beatS t (chS t op plan s) v op.b op.a op.m)).1, (ov t op plan r (beatS t (chS t op plan s) v op.b op.a op.m)).2 + 1)
theorem ov_end {t : Tk} {op : Op} {plan : List Int} {vs : List Int} {s : Sd} (h : s.p = t.ls.sum) : ov t op plan vs s = (s, 0) := by
  cases vs with
  | nil => rfl
  | cons v r => rw [ov, if_pos h]
def sp_Player_over (base : Heap) (K : PySem.W.Frag) : Sp := fun vs H Q E => ∃ A ta op W t R plan spd us rule, vs = [.ref A.p, .ref spd, rule] ∧ PlayerAt K H A ta op W ∧ TalkAt K H ta t ∧ TkOk t R ∧ SI t R op W.s ∧ OpOk t op ∧ PlOk t R plan ∧ SqT K H spd (us.map V.int) ∧ (∀ v ∈ us, 0 ≤ v) ∧ W.nt.length < sizeLine ∧
  (W.s.p = t.ls.sum ∨ ∃ f, rule = .ref f ∧ ChAt base H f plan) ∧
  ∀ H' W', Go A.all H H' → PlayerAt K H' A ta op W' → W'.s = (ov t op plan us W.s).1 → W'.bg = W.bg + (ov t op plan us W.s).2 → W'.nt = W.nt ++ [(("over" : Str), ("done" : Str))] → Q (.int (ov t op plan us W.s).2) H'
theorem len_Player_over : ∀ vs H Q E, sp_Player_over base K vs H Q E → vs.length = 3 := by
  intro vs H Q E h
  obtain ⟨A, ta, op, W, t, R, plan, spd, us, rule, rfl, _⟩ := h
  rfl
theorem bd_Player_over (T : Txt K mg) (cdv : Value) (A : Around) (outer : List Env) (s : Shared) (H : Hp) (vs : List V) (Q : VK) (E : XK) (hr : Room 6 (A.deeper (envOfC "Player.over" (defScope s_Player_over) s.heap.objs.size (He.ma K (He.ga K "Player") "over") cdv))) (h : (sp_Player_over base K) vs H Q E) :
    ∃ t, PSs (cxOf CX0 P w K mg base ["self", "speeds", "rule", "outcome", "many", "speed"] "Player.over" (defScope s_Player_over) (He.ma K (He.ga K "Player") "over") cdv A outer s H E).nox (defBody s_Player_over) t ∧ t { nx := fun _ H' => Q .non H', rt := Q } (start ["self", "speeds", "rule", "outcome", "many", "speed"] vs) H := by
  refine ⟨_, (pss_cons (ps_set (i := 3) sc_Player_over.nd rfl (Or.inl rfl) pe_str)
      (pss_cons (ps_set (i := 4) sc_Player_over.nd rfl (Or.inl rfl) pe_int)
      (pss_cons (ps_finN (pss_cons (ps_for PassesOwn.never rfl (pi_tup (pv 1)) (pg_name (i := 5) sc_Player_over.nd rfl (Or.inl rfl)) (pss_cons (ps_if (pt_val (pe_methH0 (ok_Player_is_ended T) (c_Player T) (m_Player_is_ended T) (hr.mono (by decide)) (pv 0))) (pss_one ps_break) pss_nil)
      (pss_cons (ps_if (pt_not (pt_val (pe_callH (ok_is_pace T) (hr.mono (by decide)) (by rfl) (g_is_pace T) (pa_cons (pv 5) pa_nil)))) (pss_one ps_never) pss_nil)
      (pss_cons (ps_if (pt_val (pe_methH0 (ok_Player_does_ask T) (c_Player T) (m_Player_does_ask T) (hr.mono (by decide)) (pv 0))) (pss_one (ps_expr (pe_methH (ok_Player_take T) (c_Player T) (m_Player_take T) (hr.mono (by decide)) (pv 0) (pa_cons (pe_ifExp (pt_cmpR op_isN (pv 2) pe_non (nomark _)) pe_int (pe_callH (ok_rate_by T) (hr.mono (by decide)) (by rfl) (g_rate_by T) (pa_cons (pe_fld (pv 0) rfl) (pa_cons (pv 2) (pa_cons (pe_methH0 (ok_Player_seen_now T) (c_Player T) (m_Player_seen_now T) (hr.mono (by decide)) (pv 0)) pa_nil))))) pa_nil)))) pss_nil)
      (pss_cons (ps_expr (pe_methH (ok_Player_pass_beat T) (c_Player T) (m_Player_pass_beat T) (hr.mono (by decide)) (pv 0) (pa_cons (pv 5) pa_nil)))
      (pss_one (ps_aug (i := 4) sc_Player_over.nd rfl (Or.inl rfl) pe_int ip_add)))))))
      (pss_one (ps_set (i := 3) sc_Player_over.nd rfl (Or.inl rfl) pe_str))) (pss_one (ps_expr (pe_bm PySem.F.plainAttrs_list PySem.F.slot_list_append PySem.F.type_list_append mt_append (pe_fld (pv 0) rfl) (pa_cons (pe_tup (pa_cons pe_str (pa_cons (pv 3) pa_nil))) pa_nil)))))
      (pss_one (ps_ret (pv 4)))))), ?_⟩
  obtain ⟨A, ta, op, W, t, R, plan, spd, us, rule, rfl, hp, ht, ok, si, oo, po, hsp, hus, hl, hrule, hq⟩ := h
  walk_at "rs1"
  walk_at "rs1"
  walk_at "rs1"
  walk_at "rs1"
  walk_at "rs1"
  walk_at "rs1"
  walk_at "rs1"
  walk_at "rs1"
  walk_at "rs1"
  with_reducible refine c_seqC (fun σ' H' => σ'[0]? = some (some (.ref A.p)) ∧ σ'[4]? = some (some (.int (ov t op plan us W.s).2)) ∧ σ'.length = 6 ∧ Go A.all H H' ∧ ∃ W', PlayerAt K H' A ta op W' ∧ W'.s = (ov t op plan us W.s).1 ∧ W'.bg = W.bg + (ov t op plan us W.s).2 ∧ W'.nt = W.nt) (fun σ' H4 z => ?_) fun N hN => ?_
  · obtain ⟨s0, s4, sl, g, W', hp, e1, e2, e3⟩ := z
    match σ', s0, s4, sl with
    | [a0, a1, a2, a3, a4, a5], s0, s4, _ =>
    cases s0
    cases s4
    walk_at "rd"
    refine rp_deeds_noted T hp ?_
    obtain ⟨ps, p1, p2⟩ := hp.nt
    refine bmL p1 ?_
    walk_at "rd"
    refine newTup fun p4 H5 g5 _ h5 => ?_
    replace hp := hp.go0 g5
    replace g := g.trans0 g5
    walk_at "rd"
    refine pa_note hp (sqT h5) (by rw [e3]; exact hl) fun H6 g6 hp => ?_
    walk_at "rd"
    refine hq _ { W' with nt := W'.nt ++ [(("over" : Str), ("done" : Str))] } (g.trans' g6) hp e1 e2 ?_
    show W'.nt ++ _ = _
    rw [e3]
  · refine ⟨.ref spd, by with_unfolding_all rfl, spd, rfl, ⟨_, hsp⟩, ?_⟩
    refine L2.for_it (walk_tup (xs := us.map V.int)) (fun i σ' H' => SqT K H' spd (us.map V.int) ∧ ∃ W' m, Go A.all H H' ∧ PlayerAt K H' A ta op W' ∧ SI t R op W'.s ∧ W'.bg = W.bg + (m : Nat) ∧ W'.nt = W.nt ∧ (ov t op plan (us.drop i) W'.s).1 = (ov t op plan us W.s).1 ∧ m + (ov t op plan (us.drop i) W'.s).2 = (ov t op plan us W.s).2 ∧ (W'.s.p = t.ls.sum ∨ ∃ f, rule = .ref f ∧ ChAt base H' f plan) ∧
        σ'[0]? = some (some (.ref A.p)) ∧ σ'[2]? = some (some rule) ∧ σ'[4]? = some (some (.int (m : Nat))) ∧ σ'.length = 6)
      ⟨hsp, W, 0, Go.refl, hp, si, by simp, rfl, rfl, by simp, hrule, rfl, rfl, rfl, rfl⟩ (fun i σ' H' _ z => z.1) (fun i x σ' H' H2 hi z y => ?_) fun σ' H' z => ?_
    · obtain ⟨hsp, W', m, g, hp, si, e1, e2, e3, e4, hrule, s0, s2, s4, sl⟩ := z
      obtain ⟨rfl, hx⟩ := y
      have hi' : i < us.length := by simpa using hi
      have ex : x = .int us[i] := by
        rw [List.getElem?_map, List.getElem?_eq_getElem hi'] at hx
        exact (Option.some.inj hx).symm
      subst ex
      have hv := hus _ (List.getElem_mem hi')
      rw [List.drop_eq_getElem_cons hi'] at e3 e4
      match σ', s0, s2, s4, sl with
      | [a0, a1, a2, a3, a4, a5], s0, s2, s4, _ =>
      cases s0
      cases s2
      cases s4
      replace ht := ht.go g
      walk_at "rd"
      refine rp_meth hp rfl ?_
      walk_at "rd"
      refine ⟨A, ta, op, W', t, R, rfl, hp, ht, ok, fun H3 g3 => ?_⟩
      replace hp := hp.go0 g3
      replace ht := ht.go g3
      replace g := g.trans0 g3
      replace hsp := g3.tup hsp
      walk_at "rd"
      refine ifd (fun h1 => ?_) fun h1 => ?_
      · walk_at "rd"
        rw [ov_end h1] at e3 e4
        exact hN _ _ ⟨rfl, by rw [← e4]; rfl, rfl, g, W', hp, e3, by rw [e1, ← e4]; rfl, e2⟩
      · rw [ov, if_neg h1] at e3 e4
        obtain ⟨f, er, hch⟩ := hrule.resolve_left h1
        subst er
        replace hch := hch.go g3
        walk_at "rd"
        refine ⟨us[i], rfl, ?_⟩
        rw [decide_eq_true hv]
        refine ⟨_, rfl, ?_⟩
        refine c_itNT ?_
        walk_at "rs1"
        with_reducible refine c_seqC (fun σ' H' => σ'[0]? = some (some (.ref A.p)) ∧ σ'[2]? = some (some (.ref f)) ∧ σ'[4]? = some (some (.int (m : Nat))) ∧ σ'[5]? = some (some (.int us[i])) ∧ σ'.length = 6 ∧ Go A.all H H' ∧ SqT K H' spd (us.map V.int) ∧ TalkAt K H' ta t ∧ ChAt base H' f plan ∧ ∃ W2, PlayerAt K H' A ta op W2 ∧ W2.s = chS t op plan W'.s ∧ W2.bg = W'.bg ∧ W2.nt = W'.nt) (fun σ' H4 z => ?_) fun N2 hN2 => ?_
        · obtain ⟨s0, s2, s4, s5, sl, g, hsp, ht, hch, W2, hp, q1, q2, q3⟩ := z
          match σ', s0, s2, s4, s5, sl with
          | [a0, a1, a2, a3, a4, a5], s0, s2, s4, s5, _ =>
          cases s0
          cases s2
          cases s4
          cases s5
          have si2 : SI t R op W2.s := by
            rw [q1, chS]
            split
            · next ha => exact si.choose oo ha (plan_in po (asks_n ha).1)
            · exact si
          walk_at "rd"
          refine rp_meth hp rfl ?_
          walk_at "rd"
          refine ⟨A, ta, op, W2, t, R, us[i], rfl, hp, ht, ok, si2, hv, oo.m, fun H5 W3 g5 hp k1 k2 k3 => ?_⟩
          walk_at "rd"
          rw [q1] at k1
          refine ⟨g5.tup hsp, W3, m + 1, g.trans' g5, hp, by rw [k1, ← q1]; exact si2.beat ok hv, by rw [k2, q2, e1]; omega, by rw [k3, q3, e2], by rw [k1]; exact e3, by rw [k1]; omega, .inr ⟨f, rfl, hch.go g5⟩, rfl, rfl, ?_, rfl⟩
          show some (some (V.int ((m : Nat) + 1))) = some (some (V.int ((m + 1 : Nat) : Int)))
          rw [show ((m + 1 : Nat) : Int) = (m : Int) + 1 by omega]
        · walk_at "rd"
          refine rp_meth hp rfl ?_
          walk_at "rd"
          refine ⟨A, ta, op, W', t, rfl, hp, ht, oo.m, fun H4 g4 => ?_⟩
          replace hp := hp.go0 g4
          replace ht := ht.go g4
          replace g := g.trans0 g4
          replace hsp := g4.tup hsp
          replace hch := hch.go g4
          walk_at "rd"
          refine ifb (fun ha => ?_) fun ha => ?_
          · obtain ⟨hn, _, _⟩ := asks_n ha
            walk_at "rd"
            refine rp_meth hp rfl ?_
            walk_at "rd"
            refine ⟨rfl, ?_⟩
            rw [decide_eq_false (fun z => by cases z)]
            walk_at "rd"
            refine rp_talk_told T hp ?_
            walk_at "rd"
            refine rp_meth hp rfl ?_
            walk_at "rd"
            refine ⟨A, ta, op, W', rfl, hp, fun H5 se g5 hse => ?_⟩
            replace hp := hp.go0 g5
            replace ht := ht.go g5
            replace g := g.trans0 g5
            replace hsp := g5.tup hsp
            replace hch := hch.go g5
            walk_at "rd"
            refine ⟨ta, f, se, t, R, plan, W'.s.n, _, rfl, ht, ok, hse, po.r, by rw [po.len]; exact hn, hch, fun H6 g6 => ?_⟩
            replace hp := hp.go0 g6
            replace ht := ht.go g6
            replace g := g.trans0 g6
            replace hsp := g6.tup hsp
            replace hch := hch.go g6
            walk_at "rd"
            refine ⟨A, ta, op, W', _, rfl, hp, fun H7 W2 g7 hp k1 k2 k3 => ?_⟩
            walk_at "rd"
            exact hN2 _ _ ⟨rfl, rfl, rfl, rfl, rfl, g.trans' g7, g7.tup hsp, ht.go g7, hch.go g7, W2, hp, by rw [k1, chS, if_pos ha], k2, k3⟩
          · walk_at "rd"
            exact hN2 _ _ ⟨rfl, rfl, rfl, rfl, rfl, g, hsp, ht, hch, W', hp, by rw [chS, if_neg (by rw [ha]; exact Bool.false_ne_true)], rfl, rfl⟩
    · obtain ⟨hsp, W', m, g, hp, si, e1, e2, e3, e4, hrule, s0, s2, s4, sl⟩ := z
      rw [List.length_map, List.drop_length] at e3 e4
      match σ', s0, s2, s4, sl with
      | [a0, a1, a2, a3, a4, a5], s0, s2, s4, _ =>
      cases s0
      cases s2
      cases s4
      exact hN _ _ ⟨rfl, by rw [← e4]; rfl, rfl, g, W', hp, e3, by rw [e1, ← e4]; rfl, e2⟩
end
end Rp
end
section
set_option Elab.async false
set_option linter.all false
set_option maxRecDepth 100000
set_option maxHeartbeats 4000000
namespace Rp
open PySem PySem.Spec PyProof.Rows L2
local macro_rules | `(tactic| walk_at "rd1") => `(tactic| with_reducible first
  | refine c_seq ?_ | refine c_asg ?_ | refine c_drop ?_ | refine c_ret ?_ | refine c_ifS ?_ | refine c_brk ?_ | refine c_name ?_
  | refine c_gcons ?_ | refine c_gnil ?_ | refine c_var (by with_unfolding_all rfl) ?_ | refine c_op ?_ | refine c_un ?_ | refine c_c ?_
  | refine c_I0 ?_ | refine c_U ?_ | refine c_ip ?_ | refine c_eqI ?_ | refine c_neI ?_ | refine c_test ?_ | refine c_tB ?_
  | refine c_not ?_ | refine c_and ?_ | refine c_or ?_ | refine c_andV ?_ | refine c_orV ?_ | refine c_notV ?_ | refine c_if ?_
  | refine c_cons ?_ | refine c_nil ?_ | refine c_tupN ?_ | refine c_lstN ?_ | refine c_CB ?_ | refine c_call ?_ | refine c_meth ?_ | refine c_fld ?_ | refine c_sfld ?_ | refine c_gfld ?_
  | refine c_aug (by with_unfolding_all rfl) ?_ | refine c_fldaug ?_ | refine c_sl ?_ | refine c_noPart ?_ | refine c_part ?_ | refine c_callN ?_ | refine c_bm ?_ | refine c_bm0 ?_ | refine c_make ?_ | refine c_makeK ?_ | refine c_asg2 ?_ | refine c_asg3 ?_ | refine c_itT ?_ | refine c_itN ?_ | refine c_itNT ?_ | refine c_itF ?_ | refine c_chain ?_ | refine c_next ?_ | refine ⟨_, (rfl : V.bl _ = V.bl _), ?_⟩ | refine ⟨_, (rfl : V.int _ = V.int _), ?_⟩)
local macro_rules | `(tactic| walk_at "rs1") => `(tactic| with_reducible first
  | refine c_seq ?_ | refine c_asg ?_ | refine c_drop ?_ | refine c_ret ?_ | refine c_brk ?_ | refine c_name ?_
  | refine c_gcons ?_ | refine c_gnil ?_ | refine c_var (by with_unfolding_all rfl) ?_ | refine c_op ?_ | refine c_un ?_ | refine c_c ?_
  | refine c_I0 ?_ | refine c_U ?_ | refine c_ip ?_ | refine c_eqI ?_ | refine c_neI ?_ | refine c_test ?_ | refine c_tB ?_
  | refine c_not ?_ | refine c_and ?_ | refine c_or ?_ | refine c_andV ?_ | refine c_orV ?_ | refine c_notV ?_ | refine c_if ?_
  | refine c_cons ?_ | refine c_nil ?_ | refine c_tupN ?_ | refine c_lstN ?_ | refine c_CB ?_ | refine c_call ?_ | refine c_meth ?_ | refine c_fld ?_ | refine c_sfld ?_ | refine c_gfld ?_
  | refine c_aug (by with_unfolding_all rfl) ?_ | refine c_fldaug ?_ | refine c_sl ?_ | refine c_noPart ?_ | refine c_part ?_ | refine c_callN ?_ | refine c_bm ?_ | refine c_bm0 ?_ | refine c_make ?_ | refine c_makeK ?_ | refine c_asg2 ?_ | refine c_asg3 ?_ | refine c_itT ?_ | refine c_itN ?_ | refine c_itNT ?_ | refine c_itF ?_ | refine c_chain ?_ | refine c_next ?_ | refine ⟨_, (rfl : V.bl _ = V.bl _), ?_⟩ | refine ⟨_, (rfl : V.int _ = V.int _), ?_⟩)
local macro_rules | `(tactic| walk_at "rd") => `(tactic| repeat walk_at "rd1")
local macro_rules | `(tactic| walk_at "rs") => `(tactic| repeat walk_at "rs1")

theorem dp_ints {K : PySem.W.Frag} {H : Hp} : ∀ ns : List Int, DpAll K H (ns.map V.int) (ns.map PyData.int)
  | [] => .nil
  | n :: ns => .cons (.int n) (dp_ints ns)
theorem shaped_tup (ds : List PyData) (h : SeqAt.shaped (.list ds) = true) : SeqAt.shaped (.tuple ds) = true := by
  simp only [SeqAt.shaped, PyData.canLay0, PyData.depth, Bool.and_eq_true, decide_eq_true_eq] at h ⊢
  exact h
section
variable {K : PySem.W.Frag} {mg : Str → Option Value} {σ : L2.St} {H : Hp} {D : Ends} {Q : VK}
/-- lists of ints, compared -/
theorem eqLL {a b : Addr} {ns ms : List Int} (ha : H a = some (.lst (ns.map V.int))) (hb : H b = some (.lst (ms.map V.int))) (q : Q (.bl (decide (ns = ms))) H) : rEqD K (.ref a) (.ref b) H Q :=
  ⟨.list (ns.map .int), .list (ms.map .int), .lst (sqL ha) (dp_ints ns), .lst (sqL hb) (dp_ints ms), PySem.W.ke_shaped_ints ns, PySem.W.ke_shaped_ints ms, by rw [PyData.eqv, PySem.W.ked_eqvAll]; exact q⟩
theorem neLL {a b : Addr} {ns ms : List Int} (ha : H a = some (.lst (ns.map V.int))) (hb : H b = some (.lst (ms.map V.int))) (q : Q (.bl (!decide (ns = ms))) H) : rNeD K (.ref a) (.ref b) H Q :=
  ⟨.list (ns.map .int), .list (ms.map .int), .lst (sqL ha) (dp_ints ns), .lst (sqL hb) (dp_ints ms), PySem.W.ke_shaped_ints ns, PySem.W.ke_shaped_ints ms, by rw [PyData.eqv, PySem.W.ked_eqvAll]; exact q⟩
theorem eqTT {a b : Addr} {ns ms : List Int} (ha : SqT K H a (ns.map V.int)) (hb : SqT K H b (ms.map V.int)) (q : Q (.bl (decide (ns = ms))) H) : rEqD K (.ref a) (.ref b) H Q :=
  ⟨.tuple (ns.map .int), .tuple (ms.map .int), .tup ha (dp_ints ns), .tup hb (dp_ints ms), shaped_tup _ (PySem.W.ke_shaped_ints ns), shaped_tup _ (PySem.W.ke_shaped_ints ms), by rw [PyData.eqv, PySem.W.ked_eqvAll]; exact q⟩
theorem neTT {a b : Addr} {ns ms : List Int} (ha : SqT K H a (ns.map V.int)) (hb : SqT K H b (ms.map V.int)) (q : Q (.bl (!decide (ns = ms))) H) : rNeD K (.ref a) (.ref b) H Q :=
  ⟨.tuple (ns.map .int), .tuple (ms.map .int), .tup ha (dp_ints ns), .tup hb (dp_ints ms), shaped_tup _ (PySem.W.ke_shaped_ints ns), shaped_tup _ (PySem.W.ke_shaped_ints ms), by rw [PyData.eqv, PySem.W.ked_eqvAll]; exact q⟩
end
/-! ### the deck -/
structure Da where
  d : Addr
  l0 : Addr
  l1 : Addr
def Da.all (A : Da) : List Addr := [A.d, A.l0]
/-- m draws so far -/
structure DeckAt (K : PySem.W.Frag) (H : Hp) (A : Da) (m : Nat) : Prop where
  d : H A.d = some (.lst [.ref A.l0, .ref A.l1, .int (m : Nat)])
  l0 : ∃ ns : List Int, H A.l0 = some (.lst (ns.map V.int)) ∧ ns.length ≤ 63
  l1 : ∃ ns : List Int, H A.l1 = some (.lst (ns.map V.int)) ∧ 0 < ns.length ∧ ns.length ≤ 64
  n1 : A.d ≠ A.l0
  n2 : A.d ≠ A.l1
  n3 : A.l0 ≠ A.l1
section
variable {K : PySem.W.Frag} {mg : Str → Option Value} {S : List Addr} {H H' : Hp} {A : Da} {m : Nat}
theorem DeckAt.go (h : DeckAt K H A m) (g : Go S H H') (h1 : ¬ A.d ∈ S) (h2 : ¬ A.l0 ∈ S) (h3 : ¬ A.l1 ∈ S) : DeckAt K H' A m := by
  obtain ⟨n0, a1, a2⟩ := h.l0
  obtain ⟨n1, b1, b2⟩ := h.l1
  exact ⟨g.chg _ _ h.d h1, ⟨n0, g.chg _ _ a1 h2, a2⟩, ⟨n1, g.chg _ _ b1 h3, b2⟩, h.n1, h.n2, h.n3⟩
theorem DeckAt.go0 (h : DeckAt K H A m) (g : Go [] H H') : DeckAt K H' A m := h.go g (by simp) (by simp) (by simp)
end
section
variable {K : PySem.W.Frag} {σ : L2.St} {H : Hp} {Q : VK} {q : L2.St → Hp → Prop} {A : Da} {m : Nat}
theorem c_sub {to ti : TE} {t : TSet} {v : V} (h : to σ H fun o H1 => ti σ H1 fun i H2 => t o i v H2 fun H3 => q σ H3) : gSub to ti t v σ H q := h
theorem c_revL {te : TE} (h : te σ H fun x H1 => ∃ a xs, x = .ref a ∧ SqL K H1 a xs ∧ ∀ p, H1 p = none → Q (.ref p) (upd H1 p (.lst xs.reverse))) : tRevL K te σ H Q := h
theorem dk0 (h : DeckAt K H A m) (k : Q (.ref A.l0) H) : rIxL K (.ref A.d) (.int 0) H Q := c_ixL (sqL h.d) (atI_nat (j := 0) rfl) k
theorem dk1 (h : DeckAt K H A m) (k : Q (.ref A.l1) H) : rIxL K (.ref A.d) (.int 1) H Q := c_ixL (sqL h.d) (atI_nat (j := 1) rfl) k
theorem dk2 (h : DeckAt K H A m) (k : Q (.int (m : Nat)) H) : rIxL K (.ref A.d) (.int 2) H Q := c_ixL (sqL h.d) (atI_nat (j := 2) rfl) k
end
section
variable {P : Program} {w : World} {K : PySem.W.Frag} {mg : Str → Option Value} {base : Heap}
def sp_law_deck (K : PySem.W.Frag) : Sp := fun vs H Q E => ∃ (l : Addr) (ns : List Int), vs = [.ref l] ∧ SqL K H l (ns.map V.int) ∧ ∀ H' A, Go [] H H' → DeckAt K H' A 0 → H A.d = none → H A.l0 = none → Q (.ref A.d) H'
theorem ok_law_deck (T : Txt K mg) : Has P w K mg base (0 + 1) (He.ga K "_law_deck") ["_law_script"] [] (sp_law_deck K) := by
  refine has_of (fd_law_deck T) sc_law_deck (fun _ _ _ _ _ _ us hl => match us, hl with | [_], _ => rfl) (fun vs H Q E h => ?_) fun cdv A outer s H vs Q E hr h => ⟨_, (pss_cons (ps_set (i := 1) sc_law_deck.nd rfl (Or.inl rfl) (pe_callTy call_list_of (by rfl) (b_list T) bt_list (pa_cons (pe_slice sl_list (pv 0) po_none (po_some pe_int)) pa_nil)))
      (pss_one (ps_ret (pe_lst (pa_cons (pe_revL (pv 1)) (pa_cons (pe_op op_cat (pv 1) (pe_lst (pa_cons (pe_op op_add (pe_callB call_lenR (by rfl) (b_len T) bt_len (pa_cons (pv 1) pa_nil)) pe_int) pa_nil))) (pa_cons pe_int pa_nil))))))), ?_⟩
  · obtain ⟨l, ns, rfl, _⟩ := h
    rfl
  obtain ⟨l, ns, rfl, hl, hq⟩ := h
  walk_at "rd"
  refine ⟨l, _, rfl, hl, fun p hp => ?_⟩
  have g1 := Go.new (S := []) (o := HO.lst (cutV (ns.map V.int) none (some 63))) hp
  have ec : cutV (ns.map V.int) none (some 63) = (ns.take 63).map V.int := by
    unfold cutV
    rw [HT.sIx_none, show (63 : Int) = ((63 : Nat) : Int) from rfl, HT.sIx_nat, List.drop_zero, List.length_map, List.map_take]
    rw [Nat.sub_zero, Nat.min_def]
    split
    · rfl
    · rw [List.take_of_length_le (by simp), List.take_of_length_le (by simp; omega)]
  rw [ec] at g1 ⊢
  walk_at "rd"
  refine ⟨p, _, rfl, .inl (sqL upd_same), fun p2 hp2 => ?_⟩
  have g2 := g1.trans' (Go.new (S := []) (o := HO.lst ((ns.take 63).map V.int)) hp2)
  generalize hH2 : upd (upd H p (HO.lst ((ns.take 63).map V.int))) p2 (HO.lst ((ns.take 63).map V.int)) = H2 at g2
  have h2 : H2 p2 = some (.lst ((ns.take 63).map V.int)) := by rw [← hH2]; exact upd_same
  have hl63 : (ns.take 63).length ≤ 63 := by rw [List.length_take]; omega
  generalize ns.take 63 = cs at *
  walk_at "rd"
  refine c_revL ?_
  walk_at "rd"
  refine ⟨p2, _, rfl, sqL h2, fun p3 hp3 => ?_⟩
  have g3 := Go.new (S := []) (o := HO.lst ((cs.map V.int).reverse)) hp3
  have n32 : p3 ≠ p2 := fun z => by rw [z, h2] at hp3; cases hp3
  walk_at "rd"
  refine ⟨p2, _, rfl, .inl (sqL (g3.chg _ _ h2 (by simp))), ?_⟩
  walk_at "rd"
  refine newLst fun p4 H4 g4 hp4 h4 => ?_
  have h24 : H4 p2 = some (.lst (cs.map V.int)) := g4.chg _ _ (g3.chg _ _ h2 (by simp)) (by simp)
  have h34 : H4 p3 = some (.lst ((cs.map V.int).reverse)) := g4.chg _ _ upd_same (by simp)
  refine ⟨p2, p4, _, _, rfl, rfl, h24, h4, ?_, fun p5 hp5 => ?_⟩
  · rw [List.length_map]
    exact Nat.le_trans (show cs.length + 1 ≤ 64 by omega) (by decide)
  have n53 : p5 ≠ p3 := fun z => by rw [z, h34] at hp5; cases hp5
  have g5 := Go.new (S := []) (o := HO.lst (cs.map V.int ++ [V.int (((cs.map V.int).length : Nat) + 5)])) hp5
  have h35 := g5.chg _ _ h34 (by simp)
  generalize hH5 : upd H4 p5 (HO.lst (cs.map V.int ++ [V.int (((cs.map V.int).length : Nat) + 5)])) = H5 at g5 h35
  have h55 : H5 p5 = some (.lst (cs.map V.int ++ [V.int (((cs.map V.int).length : Nat) + 5)])) := by rw [← hH5]; exact upd_same
  walk_at "rd"
  refine newLst fun p6 H6 g6 hp6 h6 => ?_
  have gg := (((g2.trans' g3).trans' g4).trans' g5)
  have n63 : p6 ≠ p3 := fun z => by rw [z, h35] at hp6; cases hp6
  have n65 : p6 ≠ p5 := fun z => by rw [z, h55] at hp6; cases hp6
  refine hq _ ⟨p6, p3, p5⟩ (gg.trans' g6) ⟨h6, ⟨cs.reverse, ?_, by rw [List.length_reverse]; exact hl63⟩, ⟨cs ++ [(((cs.map V.int).length : Nat) : Int) + 5], ?_, by rw [List.length_append]; exact Nat.lt_of_lt_of_le Nat.zero_lt_one (Nat.le_add_left _ _), by rw [List.length_append]; show cs.length + 1 ≤ 64; omega⟩, n63, n65, n53.symm⟩ (gg.free hp6 (by simp)) ?_
  · rw [List.map_reverse]
    exact g6.chg _ _ h35 (by simp)
  · rw [List.map_append]
    exact g6.chg _ _ h55 (by simp)
  · exact g2.free hp3 (by simp)
def sp_law_draw (K : PySem.W.Frag) : Sp := fun vs H Q E => ∃ A m z, vs = [.ref A.d, .int z] ∧ DeckAt K H A m ∧ m < 1000000000 ∧ 1 ≤ z ∧ z ≤ 100000 ∧ ∀ H' r, Go A.all H H' → DeckAt K H' A (m + 1) → 0 ≤ r → r < z → Q (.int r) H'
theorem ok_law_draw (T : Txt K mg) : Has P w K mg base (0 + 1) (He.ga K "_law_draw") ["_law_deck_here", "_law_size"] [] (sp_law_draw K) := by
  refine has_of (fd_law_draw T) sc_law_draw (fun _ _ _ _ _ _ us hl => match us, hl with | [_, _], _ => rfl) (fun vs H Q E h => ?_) fun cdv A outer s H vs Q E hr h => ⟨_, (pss_cons (ps_asg (pe_op op_add (pe_ix ix_list (pv 0) pe_int (fun _ _ => rfl)) pe_int) (pg_sub (pv 0) pe_int set_list))
      (pss_cons (ps_set (i := 2) sc_law_draw.nd rfl (Or.inl rfl) (pe_ix ix_list (pe_ix ix_list (pv 0) pe_int (fun _ _ => rfl)) (pe_op op_mod (pe_ix ix_list (pv 0) pe_int (fun _ _ => rfl)) (pe_callB call_lenR (by rfl) (b_len T) bt_len (pa_cons (pe_ix ix_list (pv 0) pe_int (fun _ _ => rfl)) pa_nil))) (fun _ _ => rfl)))
      (pss_cons (ps_if (pt_cmpR (op_neD hr.units) (pe_ix ix_list (pv 0) pe_int (fun _ _ => rfl)) (pe_lst pa_nil) (nomark _)) (pss_cons (ps_set (i := 2) sc_law_draw.nd rfl (Or.inl rfl) (pe_bm0 PySem.F.plainAttrs_list PySem.F.slot_list_pop PySem.F.type_list_pop mt_pop (pe_ix ix_list (pv 0) pe_int (fun _ _ => rfl))))
      (pss_one (ps_if (pt_cmpR op_ge (pv 2) (pe_op op_pow pe_int pe_int) (nomark _)) (pss_cons (ps_expr (pe_bm PySem.F.plainAttrs_list PySem.F.slot_list_append PySem.F.type_list_append mt_append (pe_ix ix_list (pv 0) pe_int (fun _ _ => rfl)) (pa_cons (pe_op op_fdiv (pv 2) (pv 1)) pa_nil)))
      (pss_one (ps_ret (pe_op op_mod (pv 2) (pv 1))))) pss_nil))) pss_nil)
      (pss_cons (ps_set (i := 3) sc_law_draw.nd rfl (Or.inl rfl) (pe_op op_mod (pe_op op_mul (pe_op op_add (pe_op op_add (pe_op op_mod (pv 2) pe_int) (pe_op op_mul (pe_op op_mul pe_int (pe_ix ix_list (pv 0) pe_int (fun _ _ => rfl))) (pe_ix ix_list (pv 0) pe_int (fun _ _ => rfl)))) pe_int) pe_int) pe_int))
      (pss_cons (ps_set (i := 3) sc_law_draw.nd rfl (Or.inl rfl) (pe_op op_mod (pe_op op_add (pe_op op_add (pe_op op_mul (pv 3) (pv 3)) (pe_op op_mul pe_int (pv 3))) (pe_ix ix_list (pv 0) pe_int (fun _ _ => rfl))) pe_int))
      (pss_one (ps_ret (pe_op op_mod (pe_op op_fdiv (pe_op op_mod (pe_op op_mul (pv 3) pe_int) pe_int) pe_int) (pv 1))))))))), ?_⟩
  · obtain ⟨A, m, z, rfl, _⟩ := h
    rfl
  obtain ⟨A, m, z, rfl, hd, hm, h1, h2, hq⟩ := h
  walk_at "rd"
  refine dk2 hd ?_
  walk_at "rd"
  refine c_sub ?_
  walk_at "rd"
  refine ⟨A.d, _, 2, 2, rfl, rfl, hd.d, rfl, ?_⟩
  have g : Go A.all H (upd H A.d (.lst [.ref A.l0, .ref A.l1, .int ((m : Int) + 1)])) := Go.mut (by simp [Da.all]) hd.d rfl
  have hd : DeckAt K (upd H A.d (.lst [.ref A.l0, .ref A.l1, .int ((m : Int) + 1)])) A (m + 1) := by
    obtain ⟨n0, a1, a2⟩ := hd.l0
    obtain ⟨n1, b1, b2⟩ := hd.l1
    refine ⟨?_, ⟨n0, by rw [upd_ne hd.n1.symm]; exact a1, a2⟩, ⟨n1, by rw [upd_ne hd.n2.symm]; exact b1, b2⟩, hd.n1, hd.n2, hd.n3⟩
    rw [upd_same, show ((m + 1 : Nat) : Int) = (m : Int) + 1 by omega]
  show tSeq _ _ _ _ (upd H A.d (.lst [.ref A.l0, .ref A.l1, .int ((m : Int) + 1)]))
  generalize upd H A.d (.lst [.ref A.l0, .ref A.l1, .int ((m : Int) + 1)]) = H1 at g hd
  walk_at "rd"
  refine dk1 hd ?_
  walk_at "rd"
  refine dk2 hd ?_
  walk_at "rd"
  refine dk1 hd ?_
  walk_at "rd"
  obtain ⟨n1, b1, b2, b3⟩ := hd.l1
  refine ⟨A.l1, _, rfl, .inl (sqL b1), ?_⟩
  rw [List.length_map]
  refine c_I (by omega) ?_
  have hmod : (((m + 1 : Nat) : Int) % (n1.length : Int)) = (((m + 1) % n1.length : Nat) : Int) := by omega
  rw [hmod]
  refine c_ixL (sqL b1) (atI_map (Nat.mod_lt _ b2)) ?_
  walk_at "rs1"
  with_reducible refine c_seqC (fun σ' H' => (∃ c, σ'[2]? = some (some (.int c))) ∧ σ'[0]? = some (some (.ref A.d)) ∧ σ'[1]? = some (some (.int z)) ∧ σ'.length = 4 ∧ Go A.all H H' ∧ DeckAt K H' A (m + 1)) (fun σ' H2 zz => ?_) fun N hN => ?_
  · clear hd g
    obtain ⟨⟨c, s2⟩, s0, s1, sl, g, hd⟩ := zz
    match σ', s0, s1, s2, sl with
    | [a0, a1, a2, a3], s0, s1, s2, _ =>
    cases s0
    cases s1
    cases s2
    have cm : ∀ x y : Int, 0 < y → 0 ≤ x % y ∧ x % y < y := fun x y h => ⟨Int.emod_nonneg x (by omega), Int.emod_lt_of_pos x h⟩
    walk_at "rd"
    refine c_I (by decide) ?_
    walk_at "rd"
    refine dk2 hd ?_
    walk_at "rd"
    refine c_I (.inl (by decide)) ?_
    walk_at "rd"
    refine dk2 hd ?_
    walk_at "rd"
    refine c_I (.inr (by omega)) ?_
    walk_at "rd"
    refine c_I (.inr (by decide)) ?_
    walk_at "rd"
    refine c_I (by decide) ?_
    generalize (c % 2147483629 + 7919 * (((m + 1 : Nat) : Int)) * (((m + 1 : Nat) : Int)) + 31) * 48271 = u1
    obtain ⟨q1, q2⟩ := cm u1 2147483647 (by decide)
    generalize u1 % 2147483647 = u2 at q1 q2
    walk_at "rd"
    refine c_I (.inl (by omega)) ?_
    walk_at "rd"
    refine c_I (.inl (by decide)) ?_
    walk_at "rd"
    refine dk2 hd ?_
    walk_at "rd"
    refine c_I (by decide) ?_
    generalize u2 * u2 + 69621 * u2 + (((m + 1 : Nat) : Int)) = u3
    obtain ⟨q3, q4⟩ := cm u3 2147483587 (by decide)
    generalize u3 % 2147483587 = u4 at q3 q4
    walk_at "rd"
    refine c_I (.inl (by omega)) ?_
    walk_at "rd"
    refine c_I (by decide) ?_
    walk_at "rd"
    refine c_I ⟨by decide, by decide⟩ ?_
    walk_at "rd"
    refine c_I (by omega) ?_
    generalize u4 * 39373 % 2147483563 / 64 = u5
    obtain ⟨q5, q6⟩ := cm u5 z (by omega)
    exact hq _ _ g hd q5 q6
  · walk_at "rd"
    refine dk0 hd ?_
    obtain ⟨n0, a1, a2⟩ := hd.l0
    walk_at "rd"
    refine newLst fun e H2 g2 _ he => ?_
    have hd := hd.go0 g2
    replace g := g.trans0 g2
    replace a1 := g2.chg _ _ a1 (by simp)
    refine neLL (ms := []) a1 he ?_
    walk_at "rd"
    refine ifdn (fun hn => ?_) fun hn => ?_
    · walk_at "rd"
      refine dk0 hd ?_
      refine bm0L a1 ?_
      have hpos : n0.length - 1 < n0.length := by
        have := List.length_pos_iff.mpr hn
        omega
      refine ⟨A.l0, _, .int n0[n0.length - 1], rfl, rfl, a1, ?_, ?_⟩
      · rw [List.length_map, List.getElem?_map, List.getElem?_eq_getElem hpos]
        rfl
      have ed : (n0.map V.int).dropLast = n0.dropLast.map V.int := by rw [List.map_dropLast]
      rw [ed]
      have g3 : Go A.all H2 (upd H2 A.l0 (.lst (n0.dropLast.map V.int))) := Go.mut (by simp [Da.all]) a1 rfl
      have hd : DeckAt K (upd H2 A.l0 (.lst (n0.dropLast.map V.int))) A (m + 1) := by
        obtain ⟨n1, b1, b2⟩ := hd.l1
        exact ⟨by rw [upd_ne hd.n1]; exact hd.d, ⟨n0.dropLast, upd_same, by rw [List.length_dropLast]; omega⟩, ⟨n1, by rw [upd_ne hd.n3.symm]; exact b1, b2⟩, hd.n1, hd.n2, hd.n3⟩
      have a3 : (upd H2 A.l0 (.lst (n0.dropLast.map V.int))) A.l0 = some (.lst (n0.dropLast.map V.int)) := upd_same
      generalize upd H2 A.l0 (.lst (n0.dropLast.map V.int)) = H3 at g3 hd a3 ⊢
      generalize n0[n0.length - 1] = c
      replace g := g.trans' g3
      walk_at "rd"
      refine c_I ⟨by decide, by decide, by decide⟩ ?_
      walk_at "rd"
      refine ifd (fun hc => ?_) fun hc => ?_
      · walk_at "rd"
        refine dk0 hd ?_
        refine bmL a3 ?_
        walk_at "rd"
        refine c_I ⟨by omega, by omega⟩ ?_
        walk_at "rd"
        refine c_app a3 (by rw [List.length_map, List.length_dropLast]; exact Nat.lt_of_le_of_lt (show n0.length - 1 ≤ 63 by omega) (by decide)) ?_
        have em : n0.dropLast.map V.int ++ [V.int (c / z)] = (n0.dropLast ++ [c / z]).map V.int := by rw [List.map_append]; rfl
        rw [em]
        have g4 : Go A.all H3 (upd H3 A.l0 (.lst ((n0.dropLast ++ [c / z]).map V.int))) := Go.mut (by simp [Da.all]) a3 rfl
        have hd : DeckAt K (upd H3 A.l0 (.lst ((n0.dropLast ++ [c / z]).map V.int))) A (m + 1) := by
          obtain ⟨n1, b1, b2⟩ := hd.l1
          exact ⟨by rw [upd_ne hd.n1]; exact hd.d, ⟨_, upd_same, by rw [List.length_append, List.length_dropLast]; show n0.length - 1 + 1 ≤ 63; omega⟩, ⟨n1, by rw [upd_ne hd.n3.symm]; exact b1, b2⟩, hd.n1, hd.n2, hd.n3⟩
        generalize upd H3 A.l0 (.lst ((n0.dropLast ++ [c / z]).map V.int)) = H4 at g4 hd ⊢
        walk_at "rd"
        refine c_I (by omega) ?_
        exact hq _ _ (g.trans' g4) hd (Int.emod_nonneg c (by omega)) (Int.emod_lt_of_pos c (by omega))
      · walk_at "rd"
        exact hN _ _ ⟨⟨_, rfl⟩, rfl, rfl, rfl, g, hd⟩
    · walk_at "rd"
      exact hN _ _ ⟨⟨_, rfl⟩, rfl, rfl, rfl, g, hd⟩
def sp_law_pick (K : PySem.W.Frag) : Sp := fun vs H Q E => ∃ A m l ns, vs = [.ref A.d, .ref l] ∧ DeckAt K H A m ∧ m < 1000000000 ∧ H l = some (.lst (List.map V.int ns)) ∧ l ≠ A.d ∧ l ≠ A.l0 ∧ 1 ≤ ns.length ∧ ns.length ≤ 100000 ∧
  ∀ H' r, Go A.all H H' → DeckAt K H' A (m + 1) → r ∈ ns → Q (.int r) H'
theorem ok_law_pick (T : Txt K mg) : Has P w K mg base (1 + 1) (He.ga K "_law_pick") ["_law_deck_here", "_law_some"] [] (sp_law_pick K) := by
  refine has_of (fd_law_pick T) sc_law_pick (fun _ _ _ _ _ _ us hl => match us, hl with | [_, _], _ => rfl) (fun vs H Q E h => ?_) fun cdv A outer s H vs Q E hr h => ⟨_, (pss_one (ps_ret (pe_ix ix_list (pv 1) (pe_callH (ok_law_draw T) (hr.mono (by decide)) (by rfl) (g_law_draw T) (pa_cons (pv 0) (pa_cons (pe_callB call_lenR (by rfl) (b_len T) bt_len (pa_cons (pv 1) pa_nil)) pa_nil))) (fun _ _ => rfl)))), ?_⟩
  · obtain ⟨A, m, l, ns, rfl, _⟩ := h
    rfl
  obtain ⟨A, m, l, ns, rfl, hd, hm, hl, n1, n2, l1, l2, hq⟩ := h
  walk_at "rd"
  refine ⟨l, _, rfl, .inl (sqL hl), ?_⟩
  walk_at "rd"
  refine ⟨A, m, _, rfl, hd, hm, by rw [List.length_map]; omega, by rw [List.length_map]; omega, fun H1 r g hd h0 h1 => ?_⟩
  rw [List.length_map] at h1
  have er : ((r.toNat : Nat) : Int) = r := Int.toNat_of_nonneg h0
  have hlt : r.toNat < ns.length := by omega
  have e := atI_map hlt
  rw [er] at e
  refine c_ixL (sqL (g.chg _ _ hl (by simp [Da.all, n1, n2]))) e ?_
  refine hq _ _ g hd ?_
  rw [List.getD_eq_getElem?_getD, List.getElem?_eq_getElem hlt]
  exact List.getElem_mem hlt
end
end Rp
end
section
set_option Elab.async false
set_option linter.all false
set_option maxRecDepth 100000
set_option maxHeartbeats 4000000
namespace Rp
open PySem PySem.Spec PyProof.Rows L2
local macro_rules | `(tactic| walk_at "rd1") => `(tactic| with_reducible first
  | refine c_seq ?_ | refine c_asg ?_ | refine c_drop ?_ | refine c_ret ?_ | refine c_ifS ?_ | refine c_brk ?_ | refine c_name ?_
  | refine c_gcons ?_ | refine c_gnil ?_ | refine c_var (by with_unfolding_all rfl) ?_ | refine c_op ?_ | refine c_un ?_ | refine c_c ?_
  | refine c_I0 ?_ | refine c_U ?_ | refine c_ip ?_ | refine c_eqI ?_ | refine c_neI ?_ | refine c_test ?_ | refine c_tB ?_
  | refine c_not ?_ | refine c_and ?_ | refine c_or ?_ | refine c_andV ?_ | refine c_orV ?_ | refine c_notV ?_ | refine c_if ?_
  | refine c_cons ?_ | refine c_nil ?_ | refine c_tupN ?_ | refine c_lstN ?_ | refine c_CB ?_ | refine c_call ?_ | refine c_meth ?_ | refine c_fld ?_ | refine c_sfld ?_ | refine c_gfld ?_
  | refine c_aug (by with_unfolding_all rfl) ?_ | refine c_fldaug ?_ | refine c_sl ?_ | refine c_noPart ?_ | refine c_part ?_ | refine c_callN ?_ | refine c_bm ?_ | refine c_bm0 ?_ | refine c_make ?_ | refine c_makeK ?_ | refine c_asg2 ?_ | refine c_asg3 ?_ | refine c_itT ?_ | refine c_itN ?_ | refine c_itNT ?_ | refine c_itF ?_ | refine c_chain ?_ | refine c_next ?_ | refine ⟨_, (rfl : V.bl _ = V.bl _), ?_⟩ | refine ⟨_, (rfl : V.int _ = V.int _), ?_⟩)
local macro_rules | `(tactic| walk_at "rs1") => `(tactic| with_reducible first
  | refine c_seq ?_ | refine c_asg ?_ | refine c_drop ?_ | refine c_ret ?_ | refine c_brk ?_ | refine c_name ?_
  | refine c_gcons ?_ | refine c_gnil ?_ | refine c_var (by with_unfolding_all rfl) ?_ | refine c_op ?_ | refine c_un ?_ | refine c_c ?_
  | refine c_I0 ?_ | refine c_U ?_ | refine c_ip ?_ | refine c_eqI ?_ | refine c_neI ?_ | refine c_test ?_ | refine c_tB ?_
  | refine c_not ?_ | refine c_and ?_ | refine c_or ?_ | refine c_andV ?_ | refine c_orV ?_ | refine c_notV ?_ | refine c_if ?_
  | refine c_cons ?_ | refine c_nil ?_ | refine c_tupN ?_ | refine c_lstN ?_ | refine c_CB ?_ | refine c_call ?_ | refine c_meth ?_ | refine c_fld ?_ | refine c_sfld ?_ | refine c_gfld ?_
  | refine c_aug (by with_unfolding_all rfl) ?_ | refine c_fldaug ?_ | refine c_sl ?_ | refine c_noPart ?_ | refine c_part ?_ | refine c_callN ?_ | refine c_bm ?_ | refine c_bm0 ?_ | refine c_make ?_ | refine c_makeK ?_ | refine c_asg2 ?_ | refine c_asg3 ?_ | refine c_itT ?_ | refine c_itN ?_ | refine c_itNT ?_ | refine c_itF ?_ | refine c_chain ?_ | refine c_next ?_ | refine ⟨_, (rfl : V.bl _ = V.bl _), ?_⟩ | refine ⟨_, (rfl : V.int _ = V.int _), ?_⟩)
local macro_rules | `(tactic| walk_at "rd") => `(tactic| repeat walk_at "rd1")
local macro_rules | `(tactic| walk_at "rs") => `(tactic| repeat walk_at "rs1")

section
variable {K : PySem.W.Frag} {g : TG} {te : TE} {vs : List Nat} {σ : L2.St} {H H1 : Hp} {Q : VK}
def LcG (K : PySem.W.Frag) (g : TG) (te : TE) (vs : List Nat) (σ : L2.St) (xs : List V) (H1 : Hp) (Q : VK) : Prop := ∃ j : Int, xs = [.int j] ∧ -(2 ^ 62) ≤ j ∧ j < 2 ^ 62 ∧ LcR K g te vs σ Q (Itr 0 j.toNat) H1
theorem c_lcG {K : PySem.W.Frag} {ta : TA} (h : ta σ H fun xs H1 => LcG K g te vs σ xs H1 Q) : tLc (iRng1 ta) g tYes te vs σ H Q := h
theorem lcG {n : Nat} (hn : n ≤ 1000000) (R : Addr → Nat → List V → Hp → Prop)
    (h0 : ∀ D, H1 D = none → R D 0 [] (upd H1 D (.lst [])))
    (hs : ∀ D i ys H', H1 D = none → i < n → ys.length = i → H' D = some (.lst ys) → R D i ys H' → g (.int (i : Nat)) (wipe σ vs) H' fun σ2 H2 => wipe σ2 vs = wipe σ vs ∧ te σ2 H2 fun y H4 => ∃ acc, H4 D = some (.lst acc) ∧ acc.length < sizeLine ∧ PvR D (R D) (i + 1) (upd H4 D (.lst (acc ++ [y]))))
    (hd : ∀ D ys H, H1 D = none → H D = some (.lst ys) → ys.length = n → R D n ys H → Q (.ref D) H) : LcG K g te vs σ [.int (n : Nat)] H1 Q :=
  ⟨n, rfl, by omega, by omega, fun D hD => by
    rw [Int.toNat_natCast]
    have ez : ∀ i : Nat, V.int (0 + (i : Int)) = V.int i := fun i => by rw [Int.zero_add]
    exact c_lcW walk_range (R D) (h0 D hD) (fun _ _ _ _ _ => trivial) (fun i ys x H H' hi hl h1 r y => by
      obtain ⟨rfl, rfl⟩ := y
      show g (V.int (0 + (i : Int))) _ _ _
      rw [ez]
      exact hs D i ys H' hD hi hl h1 r) fun ys H h1 h2 r => hd D ys H hD h1 h2 r⟩
end
def sc0 : Scope := { kind := .function, names := [], isGenerator := false, isCoroutine := false }
theorem blkOk_any {N : List Str} {sc scope : Scope} {own : List (Str × Nat)} (h : blkC N sc0 scope own = true) : BlkOk N sc scope own := by
  have b := blkOk_by h
  exact ⟨b.kind, b.uniq, b.ix, fun y hy e => by
    have z := b.free y hy e
    simp [sc0] at z, b.own⟩
/-- an address that holds nothing is none of the deck's -/
theorem DeckAt.off {K : PySem.W.Frag} {H : Hp} {A : Da} {m : Nat} (h : DeckAt K H A m) {D : Addr} (hD : H D = none) : ¬ D ∈ A.all ∧ D ≠ A.l1 ∧ D ≠ A.d ∧ D ≠ A.l0 := by
  obtain ⟨n0, q0, _⟩ := h.l0
  obtain ⟨n1, q1, _⟩ := h.l1
  have a1 : D ≠ A.d := fun z => by rw [z, h.d] at hD; cases hD
  have a2 : D ≠ A.l0 := fun z => by rw [z, q0] at hD; cases hD
  have a3 : D ≠ A.l1 := fun z => by rw [z, q1] at hD; cases hD
  exact ⟨fun z => by
    simp only [Da.all, List.mem_cons, List.not_mem_nil, or_false] at z
    rcases z with z | z
    · exact a1 z
    · exact a2 z, a3, a1, a2⟩
/-- .. and may be written -/
theorem DeckAt.wr {K : PySem.W.Frag} {H' : Hp} {A : Da} {m : Nat} {D : Addr} {o : HO} (h : DeckAt K H' A m) (hD : ¬ D ∈ A.all ∧ D ≠ A.l1 ∧ D ≠ A.d ∧ D ≠ A.l0) : DeckAt K (upd H' D o) A m := by
  obtain ⟨n0, a1, a2⟩ := h.l0
  obtain ⟨n1, b1, b2⟩ := h.l1
  exact ⟨by rw [upd_ne hD.2.2.1.symm]; exact h.d, ⟨n0, by rw [upd_ne hD.2.2.2.symm]; exact a1, a2⟩, ⟨n1, by rw [upd_ne hD.2.1.symm]; exact b1, b2⟩, h.n1, h.n2, h.n3⟩
section
variable {P : Program} {w : World} {K : PySem.W.Frag} {mg : Str → Option Value} {base : Heap}
/-- what stands of a talk's two tuples -/
structure TkT (K : PySem.W.Frag) (H : Hp) (l z : Addr) (t : Tk) : Prop where
  ex : ∃ rs : List Addr, SqT K H l (t.ls.map V.int) ∧ SqT K H z (rs.map V.ref) ∧ RowsAt K H rs t.zs
theorem TkT.go {S : List Addr} {H H' : Hp} {l z : Addr} {t : Tk} (h : TkT K H l z t) (g : Go S H H') : TkT K H' l z t := by
  obtain ⟨rs, h1, h2, h3⟩ := h.ex
  exact ⟨rs, g.tup h1, g.tup h2, h3.go g⟩
def sp_law_talk (K : PySem.W.Frag) : Sp := fun vs H Q E => ∃ A m gr, vs = [.ref A.d, .bl gr] ∧ DeckAt K H A m ∧ m < 1000000 ∧
  ∀ H' p l z t R m', Go A.all H H' → DeckAt K H' A m' → m' ≤ m + 1000 → SqT K H' p [.ref l, .ref z] → TkT K H' l z t → TkOk t R → Q (.ref p) H'
theorem ok_law_talk (T : Txt K mg) : Has P w K mg base (2 + 1) (He.ga K "_law_talk") ["_law_deck_here", "_law_great"] [] (sp_law_talk K) := by
  refine has_of (fd_law_talk T) sc_law_talk (fun _ _ _ _ _ _ us hl => match us, hl with | [_, _], _ => rfl) (fun vs H Q E h => ?_) fun cdv A outer s H vs Q E hr h => ⟨_, (pss_cons (ps_set (i := 2) sc_law_talk.nd rfl (Or.inl rfl) (pe_callH (ok_law_draw T) (hr.mono (by decide)) (by rfl) (g_law_draw T) (pa_cons (pv 0) (pa_cons pe_int pa_nil))))
      (pss_cons (ps_set (i := 3) sc_law_talk.nd rfl (Or.inl rfl) (pe_ix ix_list (pe_lst (pa_cons (pe_op op_add pe_int (pe_callH (ok_law_draw T) (hr.mono (by decide)) (by rfl) (g_law_draw T) (pa_cons (pv 0) (pa_cons pe_int pa_nil)))) (pa_cons pe_int pa_nil))) (pe_callTy call_int1 (by rfl) (b_int T) bt_int (pa_cons (pv 1) pa_nil)) (fun _ _ => rfl)))
      (pss_cons (ps_set (i := 4) sc_law_talk.nd rfl (Or.inl rfl) (pe_ix ix_list (pe_lst (pa_cons (pe_op op_add pe_int (pe_callH (ok_law_draw T) (hr.mono (by decide)) (by rfl) (g_law_draw T) (pa_cons (pv 0) (pa_cons pe_int pa_nil)))) (pa_cons pe_int pa_nil))) (pe_callTy call_int1 (by rfl) (b_int T) bt_int (pa_cons (pv 1) pa_nil)) (fun _ _ => rfl)))
      (pss_cons (ps_set (i := 5) sc_law_talk.nd rfl (Or.inl rfl) (pe_lst pa_nil))
      (pss_cons (ps_set (i := 6) sc_law_talk.nd rfl (Or.inl rfl) (pe_lst pa_nil))
      (pss_cons (ps_for PassesOwn.never rfl (pi_range1 (by rfl) (b_range T) (pa_cons (pv 3) pa_nil)) (pg_name (i := 7) sc_law_talk.nd rfl (Or.inl rfl)) (pss_cons (ps_expr (pe_bm PySem.F.plainAttrs_list PySem.F.slot_list_append PySem.F.type_list_append mt_append (pv 5) (pa_cons (pe_ix ix_list (pe_lst (pa_cons (pe_op op_add pe_int (pe_callH (ok_law_draw T) (hr.mono (by decide)) (by rfl) (g_law_draw T) (pa_cons (pv 0) (pa_cons pe_int pa_nil)))) (pa_cons (pe_op op_add pe_int (pe_callH (ok_law_draw T) (hr.mono (by decide)) (by rfl) (g_law_draw T) (pa_cons (pv 0) (pa_cons pe_int pa_nil)))) (pa_cons (pe_op op_add pe_int (pe_callH (ok_law_draw T) (hr.mono (by decide)) (by rfl) (g_law_draw T) (pa_cons (pv 0) (pa_cons pe_int pa_nil)))) pa_nil)))) (pv 2) (fun _ _ => rfl)) pa_nil)))
      (pss_cons (ps_set (i := 8) sc_law_talk.nd rfl (Or.inr rfl) (pe_lst (pa_cons (pe_op op_add pe_int (pe_callH (ok_law_draw T) (hr.mono (by decide)) (by rfl) (g_law_draw T) (pa_cons (pv 0) (pa_cons pe_int pa_nil)))) (pa_cons (pe_op op_add pe_int (pe_callH (ok_law_draw T) (hr.mono (by decide)) (by rfl) (g_law_draw T) (pa_cons (pv 0) (pa_cons pe_int pa_nil)))) (pa_cons (pe_op op_add pe_int (pe_callH (ok_law_draw T) (hr.mono (by decide)) (by rfl) (g_law_draw T) (pa_cons (pv 0) (pa_cons pe_int pa_nil)))) (pa_cons (pe_op op_add pe_int (pe_callH (ok_law_draw T) (hr.mono (by decide)) (by rfl) (g_law_draw T) (pa_cons (pv 0) (pa_cons pe_int pa_nil)))) pa_nil))))))
      (pss_one (ps_expr (pe_bm PySem.F.plainAttrs_list PySem.F.slot_list_append PySem.F.type_list_append mt_append (pv 6) (pa_cons (pe_callTy call_tupR (by rfl) (b_tuple T) bt_tuple (pa_cons (pe_lc (own := [("_law_rate", 9)]) (g := gName 9) (tt := tYes) (te := (tOp (rI0 fun i j => .int (i + j)) (tCall (sp_law_pick K) [] E0 (tCons (tVar 0) (tCons (tVar 8) tNil))) (tVar 9))) rfl sc_law_talk.nd (pi_range1 (by rfl) (b_range T) (pa_cons (pv 4) pa_nil)) (blkOk_by (N := ["_law_deck_here", "_law_great", "_law_way", "_law_stretches", "_law_rates", "_law_lengths", "_law_sizes", "_law_k", "_law_some", "_law_rate", "_law_one", "_law_row"]) (sc := defScope s_law_talk) (by decide +kernel)) (fun _ _ _ _ _ => (pg_name (i := 9) sc_law_talk.nd rfl (Or.inl rfl))) (fun _ _ _ _ _ => pts_nil) (fun _ _ _ _ _ => (pe_op op_add (pe_callH (ok_law_pick T) (hr.mono (by decide)) (by rfl) (g_law_pick T) (pa_cons (pv 0) (pa_cons (pv 8) pa_nil))) (pv 9)))) pa_nil)) pa_nil)))))))
      (pss_one (ps_ret (pe_tup (pa_cons (pe_callTy call_tupR (by rfl) (b_tuple T) bt_tuple (pa_cons (pv 5) pa_nil)) (pa_cons (pe_callTy call_tupR (by rfl) (b_tuple T) bt_tuple (pa_cons (pe_lc (own := [("_law_row", 11)]) (g := gName 11) (tt := tYes) (te := (tCB (rTupOf K) (tCons (tLc (iTup K (tVar 11)) (gName 10) tYes (tCB rMin2 (tCons (tC (.int 1000)) (tCons (tVar 10) tNil))) [10]) tNil))) rfl sc_law_talk.nd (pi_list (pv 6)) (blkOk_by (N := ["_law_deck_here", "_law_great", "_law_way", "_law_stretches", "_law_rates", "_law_lengths", "_law_sizes", "_law_k", "_law_some", "_law_rate", "_law_one", "_law_row"]) (sc := defScope s_law_talk) (by decide +kernel)) (fun _ _ _ _ _ => (pg_name (i := 11) sc_law_talk.nd rfl (Or.inl rfl))) (fun _ _ _ _ _ => pts_nil) (fun _ _ _ _ _ => (pe_callTy call_tupR (by rfl) (b_tuple T) bt_tuple (pa_cons (pe_lc (own := [("_law_one", 10)]) (g := gName 10) (tt := tYes) (te := (tCB rMin2 (tCons (tC (.int 1000)) (tCons (tVar 10) tNil)))) rfl sc_law_talk.nd (pi_tup (pv 11)) (blkOk_any (N := ["_law_deck_here", "_law_great", "_law_way", "_law_stretches", "_law_rates", "_law_lengths", "_law_sizes", "_law_k", "_law_some", "_law_rate", "_law_one", "_law_row"]) (by decide +kernel)) (fun _ _ _ _ _ => (pg_name (i := 10) sc_law_talk.nd rfl (Or.inl rfl))) (fun _ _ _ _ _ => pts_nil) (fun _ _ _ _ _ => (pe_callB (call_minR rfl) (by rfl) (b_min T) bt_min (pa_cons pe_int (pa_cons (pv 10) pa_nil))))) pa_nil)))) pa_nil)) pa_nil))))))))))), ?_⟩
  · obtain ⟨A, m, gr, rfl, _⟩ := h
    rfl
  obtain ⟨A, m, gr, rfl, hd, hm, hq⟩ := h
  walk_at "rd"
  refine ⟨A, m, 3, rfl, hd, by omega, by decide, by decide, fun H1 way g1 hd w0 w3 => ?_⟩
  walk_at "rd"
  refine ⟨A, m + 1, 5, rfl, hd, by omega, by decide, by decide, fun H2 n0 g2 hd a0 a5 => ?_⟩
  replace g1 := g1.trans' g2
  walk_at "rd"
  refine newLst fun e1 H3 g3 _ he1 => ?_
  replace hd := hd.go0 g3
  replace g1 := g1.trans0 g3
  walk_at "rd"
  refine .inr ⟨gr, rfl, ?_⟩
  have hn : ∃ n : Nat, atI [V.int (1 + n0), V.int 12] (if gr = true then 1 else 0) = some (.int (n : Nat)) ∧ 1 ≤ n ∧ n ≤ 12 := by
    cases gr with
    | true => exact ⟨12, rfl, by decide, by decide⟩
    | false => exact ⟨(1 + n0).toNat, by rw [Int.toNat_of_nonneg (by omega)]; rfl, by omega, by omega⟩
  obtain ⟨n, en, n1, n12⟩ := hn
  refine c_ixL (sqL he1) en ?_
  walk_at "rd"
  refine ⟨A, m + 2, 4, rfl, hd, by omega, by decide, by decide, fun H4 r0 g4 hd b0 b4 => ?_⟩
  replace g1 := g1.trans' g4
  walk_at "rd"
  refine newLst fun e2 H5 g5 _ he2 => ?_
  replace hd := hd.go0 g5
  replace g1 := g1.trans0 g5
  walk_at "rd"
  refine .inr ⟨gr, rfl, ?_⟩
  have hR : ∃ R : Nat, atI [V.int (1 + r0), V.int 4] (if gr = true then 1 else 0) = some (.int (R : Nat)) ∧ 1 ≤ R ∧ R ≤ 4 := by
    cases gr with
    | true => exact ⟨4, rfl, by decide, by decide⟩
    | false => exact ⟨(1 + r0).toNat, by rw [Int.toNat_of_nonneg (by omega)]; rfl, by omega, by omega⟩
  obtain ⟨R, eR, R1, R4⟩ := hR
  refine c_ixL (sqL he2) eR ?_
  walk_at "rd"
  refine newLst fun La H6 g6 f6 h6 => ?_
  have nLa : ∀ a ∈ A.all, La ≠ a := fun a ha z => by
    simp only [Da.all, List.mem_cons, List.not_mem_nil, or_false] at ha
    obtain ⟨ns0, q0, _⟩ := hd.l0
    rcases ha with rfl | rfl
    · rw [z, hd.d] at f6; cases f6
    · rw [z, q0] at f6; cases f6
  have nLad : La ≠ A.l1 := fun z => by
    obtain ⟨ns0, q0, _⟩ := hd.l1
    rw [z, q0] at f6; cases f6
  have eLa : H La = none := g1.free f6 fun z => nLa _ z rfl
  replace hd := hd.go0 g6
  replace g1 := g1.trans0 g6
  walk_at "rd"
  refine newLst fun Lb H7 g7 f7 h7 => ?_
  have nLb : ∀ a ∈ A.all, Lb ≠ a := fun a ha z => by
    simp only [Da.all, List.mem_cons, List.not_mem_nil, or_false] at ha
    obtain ⟨ns0, q0, _⟩ := hd.l0
    rcases ha with rfl | rfl
    · rw [z, hd.d] at f7; cases f7
    · rw [z, q0] at f7; cases f7
  have nLbd : Lb ≠ A.l1 := fun z => by
    obtain ⟨ns0, q0, _⟩ := hd.l1
    rw [z, q0] at f7; cases f7
  have eLb : H Lb = none := g1.free f7 fun z => nLb _ z rfl
  have nab : La ≠ Lb := fun z => by
    rw [← z, h6] at f7; cases f7
  replace hd := hd.go0 g7
  replace g1 := g1.trans0 g7
  replace h6 := g7.chg _ _ h6 (by simp)
  have nLa' : ¬ La ∈ A.all := fun z => nLa _ z rfl
  have nLb' : ¬ Lb ∈ A.all := fun z => nLb _ z rfl
  walk_at "rd"
  refine ⟨_, by with_unfolding_all rfl, (n : Int), rfl, by omega, by omega, ?_⟩
  rw [Int.toNat_natCast]
  refine L2.for_it (walk_range (lo := 0) (n := n)) (fun i σ' H' => ∃ m', m' ≤ m + 3 + 11 * i ∧ Go A.all H H' ∧ DeckAt K H' A m' ∧ ∃ (ls : List Int) (zs : List (List Int)) (rs : List Addr), ls.length = i ∧ zs.length = i ∧ H' La = some (.lst (ls.map V.int)) ∧ H' Lb = some (.lst (rs.map V.ref)) ∧ RowsAt K H' rs zs ∧
      (∀ l ∈ ls, 1 ≤ l ∧ l ≤ 20) ∧ (∀ r ∈ zs, r.length = R ∧ ∀ z ∈ r, 1 ≤ z ∧ z ≤ 2000) ∧ σ'[0]? = some (some (.ref A.d)) ∧ σ'[2]? = some (some (.int way)) ∧ σ'[4]? = some (some (.int (R : Nat))) ∧ σ'[5]? = some (some (.ref La)) ∧ σ'[6]? = some (some (.ref Lb)) ∧ σ'.length = 12)
    ⟨m + 2 + 1, by omega, g1, hd, [], [], [], rfl, rfl, h6, h7, ⟨rfl, fun i r row e _ => by simp at e⟩, by simp, by simp, rfl, rfl, rfl, rfl, rfl, rfl⟩ (fun _ _ _ _ _ => trivial) (fun i x σ' H' H'' hi z y => ?_) fun σ' H' z => ?_
  · clear h6 h7 hd g1
    obtain ⟨m', hm', g1, hd, ls, zs, rs, l1, l2, hLa, hLb, hrs, hls, hzs, s0, s2, s4, s5, s6, sl⟩ := z
    obtain ⟨rfl, rfl⟩ := y
    match σ', s0, s2, s4, s5, s6, sl with
    | [a0, a1, a2, a3, a4, a5, a6, a7, a8, a9, a10, a11], s0, s2, s4, s5, s6, _ =>
    cases s0
    cases s2
    cases s4
    cases s5
    cases s6
    walk_at "rd"
    refine bmL hLa ?_
    walk_at "rd"
    refine ⟨A, m', 5, rfl, hd, by omega, by decide, by decide, fun J1 x1 j1 hd p1 q1 => ?_⟩
    have gc := j1
    walk_at "rd"
    refine ⟨A, m' + 1, 5, rfl, hd, by omega, by decide, by decide, fun J2 x2 j2 hd p2 q2 => ?_⟩
    replace gc := gc.trans' j2
    walk_at "rd"
    refine ⟨A, m' + 2, 20, rfl, hd, by omega, by decide, by decide, fun J3 x3 j3 hd p3 q3 => ?_⟩
    replace gc := gc.trans' j3
    walk_at "rd"
    refine newLst fun e3 J4 j4 _ he3 => ?_
    replace hd := hd.go0 j4
    replace gc := gc.trans0 j4
    have hl : ∃ l, atI [V.int (1 + x1), V.int (8 + x2), V.int (1 + x3)] way = some (.int l) ∧ 1 ≤ l ∧ l ≤ 20 := by
      have hw : way = 0 ∨ way = 1 ∨ way = 2 := by omega
      rcases hw with rfl | rfl | rfl
      · exact ⟨_, rfl, by omega, by omega⟩
      · exact ⟨_, rfl, by omega, by omega⟩
      · exact ⟨_, rfl, by omega, by omega⟩
    obtain ⟨l, el, ll1, ll2⟩ := hl
    walk_at "rd"
    refine c_ixL (sqL he3) el ?_
    walk_at "rd"
    have hLa4 := gc.chg _ _ hLa nLa'
    have hLb4 := gc.chg _ _ hLb nLb'
    replace hrs := hrs.go gc
    refine c_app hLa4 (by rw [List.length_map, l1]; exact Nat.lt_of_lt_of_le hi (Nat.le_trans n12 (by decide))) ?_
    have gd : Go [La] J4 (upd J4 La (.lst (ls.map V.int ++ [V.int l]))) := Go.mut (by simp) hLa4 rfl
    have em : ls.map V.int ++ [V.int l] = (ls ++ [l]).map V.int := by rw [List.map_append]; rfl
    rw [em] at gd ⊢
    have hLa5 : (upd J4 La (.lst ((ls ++ [l]).map V.int))) La = some (.lst ((ls ++ [l]).map V.int)) := upd_same
    have hLb5 : (upd J4 La (.lst ((ls ++ [l]).map V.int))) Lb = some (.lst (rs.map V.ref)) := by rw [upd_ne nab.symm]; exact hLb4
    replace hrs := hrs.go gd
    replace hd := hd.go gd (fun z => nLa' (by rw [← List.mem_singleton.mp z]; simp [Da.all])) (fun z => nLa' (by rw [← List.mem_singleton.mp z]; simp [Da.all])) (fun z => nLad (List.mem_singleton.mp z).symm)
    have g5 : Go A.all H (upd J4 La (.lst ((ls ++ [l]).map V.int))) := (g1.trans' gc).updF eLa
    generalize upd J4 La (.lst ((ls ++ [l]).map V.int)) = J5 at *
    clear gd gc j1 j2 j3 j4 hLa4 hLb4
    walk_at "rd"
    refine ⟨A, m' + 3, 9, rfl, hd, by omega, by decide, by decide, fun J6 y1 j6 hd p4 q4 => ?_⟩
    have gc := j6
    walk_at "rd"
    refine ⟨A, m' + 4, 6, rfl, hd, by omega, by decide, by decide, fun J7 y2 j7 hd p5 q5 => ?_⟩
    replace gc := gc.trans' j7
    walk_at "rd"
    refine ⟨A, m' + 5, 10, rfl, hd, by omega, by decide, by decide, fun J8 y3 j8 hd p6 q6 => ?_⟩
    replace gc := gc.trans' j8
    walk_at "rd"
    refine ⟨A, m' + 6, 1000, rfl, hd, by omega, by decide, by decide, fun J9 y4 j9 hd p7 q7 => ?_⟩
    replace gc := gc.trans' j9
    walk_at "rd"
    refine newLst fun Ls J10 j10 f10 hLs => ?_
    have nLs : ¬ Ls ∈ A.all := fun z => by
      simp only [Da.all, List.mem_cons, List.not_mem_nil, or_false] at z
      obtain ⟨ns0, q0, _⟩ := hd.l0
      rcases z with rfl | rfl
      · rw [hd.d] at f10; cases f10
      · rw [q0] at f10; cases f10
    replace hd := hd.go0 j10
    replace gc := gc.trans0 j10
    have hLs' : J10 Ls = some (.lst (List.map V.int [1 + y1, 7 + y2, 95 + y3, 1 + y4])) := hLs
    replace hrs := hrs.go gc
    have hLaA := gc.chg _ _ hLa5 nLa'
    have hLbA := gc.chg _ _ hLb5 nLb'
    have gA := g5.trans' gc
    clear gc hLa5 hLb5 g5 j6 j7 j8 j9 j10 hLs
    walk_at "rd"
    refine bmL hLbA ?_
    walk_at "rd"
    refine c_lcG (K := K) ?_
    have hdA := hd
    walk_at "rd"
    refine lcG (by omega) (fun D j ys Hc => Go A.all J10 Hc ∧ ∃ m2, m2 ≤ m' + 7 + j ∧ DeckAt K Hc A m2 ∧ ∃ row : List Int, ys = row.map V.int ∧ row.length = j ∧ ∀ z ∈ row, 1 ≤ z ∧ z ≤ 2000) (fun D hD => ⟨Go.new hD, m' + 7, by omega, hd.go0 (Go.new hD), [], rfl, rfl, by simp⟩) (fun D j ys Hc hD hj hl hDl r => ?_) fun D ys Hc hD hDl hl r => ?_
    · obtain ⟨g6, m2, hm2, hd, row, rfl, hrl, hrow⟩ := r
      have off := hdA.off hD
      have nD := off.1
      walk_at "rd"
      refine ⟨rfl, ?_⟩
      walk_at "rd"
      refine ⟨A, m2, Ls, [1 + y1, 7 + y2, 95 + y3, 1 + y4], rfl, hd, by omega, g6.chg _ _ hLs' nLs, fun z => nLs (by rw [z]; simp [Da.all]), fun z => nLs (by rw [z]; simp [Da.all]), Nat.le_of_ble_eq_true rfl, Nat.le_of_ble_eq_true rfl, fun Hd r7 g7 hd hr => ?_⟩
      have hr2 : 1 ≤ r7 ∧ r7 ≤ 1000 := by
        simp only [List.mem_cons, List.not_mem_nil, or_false] at hr
        omega
      walk_at "rd"
      have hDd := g7.chg _ _ hDl nD
      refine lcEnd hDd hl (Nat.lt_of_lt_of_le hj (Nat.le_trans R4 (by decide))) ⟨(g6.trans' g7).updF hD, m2 + 1, by omega, ?_, row ++ [r7 + (j : Int)], by rw [List.map_append]; rfl, by rw [List.length_append, hrl]; rfl, fun z hz => ?_⟩
      · exact hd.wr off
      · rcases List.mem_append.mp hz with e | e
        · exact hrow z e
        · rw [List.mem_singleton.mp e]
          omega
    · obtain ⟨g6, m2, hm2, hd, row, rfl, hrl, hrow⟩ := r
      replace hrs := hrs.go g6
      have hLaB := g6.chg _ _ hLaA nLa'
      have hLbB := g6.chg _ _ hLbA nLb'
      have gB := gA.trans' g6
      walk_at "rd"
      refine tupL hDl fun q K1 k1 fq hq1 => ?_
      replace hd := hd.go0 k1
      replace hrs := hrs.go k1
      have hLaC := k1.chg _ _ hLaB (by simp)
      have hLbC := k1.chg _ _ hLbB (by simp)
      replace gB := gB.trans0 k1
      walk_at "rd"
      refine c_app hLbC (by rw [List.length_map, hrs.1, l2]; exact Nat.lt_of_lt_of_le hi (Nat.le_trans n12 (by decide))) ?_
      have em : rs.map V.ref ++ [V.ref q] = (rs ++ [q]).map V.ref := by rw [List.map_append]; rfl
      have gd : Go [Lb] K1 (upd K1 Lb (.lst (rs.map V.ref ++ [V.ref q]))) := Go.mut (by simp) hLbC rfl
      rw [em] at gd ⊢
      have nLb3 : ¬ Lb ∈ A.all ∧ Lb ≠ A.l1 ∧ Lb ≠ A.d ∧ Lb ≠ A.l0 := ⟨nLb', nLbd, fun z => nLb' (by rw [z]; simp [Da.all]), fun z => nLb' (by rw [z]; simp [Da.all])⟩
      refine ⟨m2, by omega, gB.updF eLb, hd.wr nLb3, ls ++ [l], zs ++ [row], rs ++ [q], by rw [List.length_append, l1]; rfl, by rw [List.length_append, l2]; rfl, by rw [upd_ne nab]; exact hLaC, upd_same, ⟨by rw [List.length_append, List.length_append, hrs.1]; rfl, fun j a b ea eb => ?_⟩, fun x hx => ?_, fun x hx => ?_, rfl, rfl, rfl, rfl, rfl, rfl⟩
      · by_cases hj : j < rs.length
        · rw [List.getElem?_append_left hj] at ea
          rw [List.getElem?_append_left (by rw [← hrs.1]; exact hj)] at eb
          exact gd.tup (hrs.2 j a b ea eb)
        · rw [List.getElem?_append_right (by omega)] at ea
          rw [List.getElem?_append_right (by rw [← hrs.1]; omega), ← hrs.1] at eb
          have hz : j - rs.length = 0 := by
            have := (List.getElem?_eq_some_iff.mp ea).1
            simp at this
            omega
          rw [hz] at ea eb
          cases ea
          cases eb
          exact gd.tup (sqT hq1)
      · rcases List.mem_append.mp hx with e | e
        · exact hls x e
        · rw [List.mem_singleton.mp e]
          exact ⟨ll1, ll2⟩
      · rcases List.mem_append.mp hx with e | e
        · exact hzs x e
        · rw [List.mem_singleton.mp e]
          exact ⟨hrl, hrow⟩
  · clear h6 h7 hd g1
    obtain ⟨m', hm', g1, hd, ls, zs, rs, l1, l2, hLa, hLb, hrs, hls, hzs, s0, s2, s4, s5, s6, sl⟩ := z
    match σ', s0, s2, s4, s5, s6, sl with
    | [a0, a1, a2, a3, a4, a5, a6, a7, a8, a9, a10, a11], s0, s2, s4, s5, s6, _ =>
    cases s0
    cases s2
    cases s4
    cases s5
    cases s6
    walk_at "rd"
    refine tupL hLa fun tl K1 k1 _ htl => ?_
    replace hd := hd.go0 k1
    replace hrs := hrs.go k1
    replace hLb := k1.chg _ _ hLb (by simp)
    replace g1 := g1.trans0 k1
    walk_at "rd"
    refine c_lcL ?_
    walk_at "rd"
    refine lcL (sqL hLb) (fun D i ys Hc => Go [] K1 Hc ∧ ∃ (qs : List Addr) (zs' : List (List Int)), ys = qs.map V.ref ∧ zs'.length = i ∧ RowsAt K Hc qs zs' ∧ ∀ r ∈ zs', r.length = R ∧ ∀ z ∈ r, 1 ≤ z ∧ z ≤ 1000) (fun D hD => ⟨Go.new hD, [], [], rfl, rfl, ⟨rfl, fun i r row e _ => by simp at e⟩, by simp⟩) (fun D i ys Hc hD r => sqL (r.1.chg _ _ hLb (by simp))) (fun D i ys x Hc hD hi hx hl hDl r => ?_) fun D ys Hc hD hDl hl r => ?_
    · obtain ⟨g6, qs, zs', rfl, hzl, hqs, hzs'⟩ := r
      have hi' : i < rs.length := by simpa using hi
      have hiz : i < zs.length := by rw [← hrs.1]; exact hi'
      have ex : x = .ref rs[i] := by
        rw [List.getElem?_map, List.getElem?_eq_getElem hi'] at hx
        exact (Option.some.inj hx).symm
      subst ex
      have hrow := g6.tup (hrs.2 i _ _ (List.getElem?_eq_getElem hi') (List.getElem?_eq_getElem hiz))
      have hzi := hzs _ (List.getElem_mem hiz)
      generalize zs[i] = row at hrow hzi
      walk_at "rd"
      refine ⟨rfl, ?_⟩
      walk_at "rd"
      refine c_lcT ?_
      walk_at "rd"
      refine lcT hrow (fun D2 j ys2 Hd => Go [] Hc Hd ∧ ∃ row' : List Int, ys2 = row'.map V.int ∧ row'.length = j ∧ ∀ z ∈ row', 1 ≤ z ∧ z ≤ 1000) (fun D2 hD2 => ⟨Go.new hD2, [], rfl, rfl, by simp⟩) (fun D2 j ys2 Hd hD2 r => r.1.tup hrow) (fun D2 j ys2 x2 Hd hD2 hj hx2 hl2 hDl2 r2 => ?_) fun D2 ys2 Hd hD2 hDl2 hl2 r2 => ?_
      · obtain ⟨g7, row', rfl, hrl', hrow'⟩ := r2
        have hj' : j < row.length := by simpa using hj
        have ex2 : x2 = .int row[j] := by
          rw [List.getElem?_map, List.getElem?_eq_getElem hj'] at hx2
          exact (Option.some.inj hx2).symm
        subst ex2
        have hz1 := hzi.2 _ (List.getElem_mem hj')
        walk_at "rd"
        refine ⟨rfl, ?_⟩
        walk_at "rd"
        refine ⟨1000, row[j], rfl, ?_⟩
        refine lcEnd hDl2 hl2 (Nat.lt_of_lt_of_le hj' (by rw [hzi.1]; exact Nat.le_trans R4 (by decide))) ⟨g7.updF hD2, row' ++ [if row[j] < 1000 then row[j] else 1000], by rw [List.map_append]; rfl, by rw [List.length_append, hrl']; rfl, fun z hz => ?_⟩
        rcases List.mem_append.mp hz with e | e
        · exact hrow' z e
        · rw [List.mem_singleton.mp e]
          split <;> omega
      · obtain ⟨g7, row', rfl, hrl', hrow'⟩ := r2
        rw [List.length_map] at hrl'
        walk_at "rd"
        refine tupL hDl2 fun q K2 k2 _ hq1 => ?_
        have g8 := g7.trans' k2
        refine lcEnd (g8.chg _ _ hDl (by simp)) hl (Nat.lt_of_lt_of_le hi' (by rw [hrs.1, l2]; exact Nat.le_trans n12 (by decide))) ⟨(g6.trans' g8).updF hD, qs ++ [q], zs' ++ [row'], by rw [List.map_append]; rfl, by rw [List.length_append, hzl]; rfl, ⟨by rw [List.length_append, List.length_append, hqs.1]; rfl, fun j a b ea eb => ?_⟩, fun x hx => ?_⟩
        · have gD : Go [D] K2 (upd K2 D (.lst (qs.map V.ref ++ [V.ref q]))) := Go.mut (by simp) (g8.chg _ _ hDl (by simp)) rfl
          by_cases hj : j < qs.length
          · rw [List.getElem?_append_left hj] at ea
            rw [List.getElem?_append_left (by rw [← hqs.1]; exact hj)] at eb
            exact gD.tup (g8.tup (hqs.2 j a b ea eb))
          · rw [List.getElem?_append_right (by omega)] at ea
            rw [List.getElem?_append_right (by rw [← hqs.1]; omega), ← hqs.1] at eb
            have hz : j - qs.length = 0 := by
              have := (List.getElem?_eq_some_iff.mp ea).1
              simp at this
              omega
            rw [hz] at ea eb
            cases ea
            cases eb
            exact gD.tup (sqT hq1)
        · rcases List.mem_append.mp hx with e | e
          · exact hzs' x e
          · rw [List.mem_singleton.mp e]
            exact ⟨by rw [hrl', hzi.1], hrow'⟩
    · obtain ⟨g6, qs, zs', rfl, hzl, hqs, hzs'⟩ := r
      walk_at "rd"
      refine tupL hDl fun tz K2 k2 _ htz => ?_
      walk_at "rd"
      refine newTup fun p K3 k3 _ hp => ?_
      have gg := (g6.trans' k2).trans' k3
      refine hq _ p tl tz ⟨ls, zs'⟩ R m' (g1.trans0 gg) (hd.go0 gg) (by omega) (sqT hp) ⟨qs, gg.tup (sqT htl), k3.tup (sqT htz), (hqs.go k2).go k3⟩ ?_
      have hz2 : zs'.length = ls.length := by
        rw [hzl, List.length_map, hrs.1, l2, l1]
      refine ⟨hz2, ?_, ?_, hls, fun r hr => (hzs' r hr).1, R1, R4, fun r hr => (hzs' r hr).2⟩
      · show 0 < ls.length
        omega
      · show ls.length ≤ 12
        omega
end
end Rp
end
section
set_option Elab.async false
set_option linter.all false
set_option maxRecDepth 100000
set_option maxHeartbeats 4000000
namespace Rp
open PySem PySem.Spec PyProof.Rows L2
local macro_rules | `(tactic| walk_at "rd1") => `(tactic| with_reducible first
  | refine c_seq ?_ | refine c_asg ?_ | refine c_drop ?_ | refine c_ret ?_ | refine c_ifS ?_ | refine c_brk ?_ | refine c_name ?_
  | refine c_gcons ?_ | refine c_gnil ?_ | refine c_var (by with_unfolding_all rfl) ?_ | refine c_op ?_ | refine c_un ?_ | refine c_c ?_
  | refine c_I0 ?_ | refine c_U ?_ | refine c_ip ?_ | refine c_eqI ?_ | refine c_neI ?_ | refine c_test ?_ | refine c_tB ?_
  | refine c_not ?_ | refine c_and ?_ | refine c_or ?_ | refine c_andV ?_ | refine c_orV ?_ | refine c_notV ?_ | refine c_if ?_
  | refine c_cons ?_ | refine c_nil ?_ | refine c_tupN ?_ | refine c_lstN ?_ | refine c_CB ?_ | refine c_call ?_ | refine c_meth ?_ | refine c_fld ?_ | refine c_sfld ?_ | refine c_gfld ?_
  | refine c_aug (by with_unfolding_all rfl) ?_ | refine c_fldaug ?_ | refine c_sl ?_ | refine c_noPart ?_ | refine c_part ?_ | refine c_callN ?_ | refine c_bm ?_ | refine c_bm0 ?_ | refine c_make ?_ | refine c_makeK ?_ | refine c_asg2 ?_ | refine c_asg3 ?_ | refine c_itT ?_ | refine c_itN ?_ | refine c_itNT ?_ | refine c_itF ?_ | refine c_chain ?_ | refine c_next ?_ | refine ⟨_, (rfl : V.bl _ = V.bl _), ?_⟩ | refine ⟨_, (rfl : V.int _ = V.int _), ?_⟩)
local macro_rules | `(tactic| walk_at "rs1") => `(tactic| with_reducible first
  | refine c_seq ?_ | refine c_asg ?_ | refine c_drop ?_ | refine c_ret ?_ | refine c_brk ?_ | refine c_name ?_
  | refine c_gcons ?_ | refine c_gnil ?_ | refine c_var (by with_unfolding_all rfl) ?_ | refine c_op ?_ | refine c_un ?_ | refine c_c ?_
  | refine c_I0 ?_ | refine c_U ?_ | refine c_ip ?_ | refine c_eqI ?_ | refine c_neI ?_ | refine c_test ?_ | refine c_tB ?_
  | refine c_not ?_ | refine c_and ?_ | refine c_or ?_ | refine c_andV ?_ | refine c_orV ?_ | refine c_notV ?_ | refine c_if ?_
  | refine c_cons ?_ | refine c_nil ?_ | refine c_tupN ?_ | refine c_lstN ?_ | refine c_CB ?_ | refine c_call ?_ | refine c_meth ?_ | refine c_fld ?_ | refine c_sfld ?_ | refine c_gfld ?_
  | refine c_aug (by with_unfolding_all rfl) ?_ | refine c_fldaug ?_ | refine c_sl ?_ | refine c_noPart ?_ | refine c_part ?_ | refine c_callN ?_ | refine c_bm ?_ | refine c_bm0 ?_ | refine c_make ?_ | refine c_makeK ?_ | refine c_asg2 ?_ | refine c_asg3 ?_ | refine c_itT ?_ | refine c_itN ?_ | refine c_itNT ?_ | refine c_itF ?_ | refine c_chain ?_ | refine c_next ?_ | refine ⟨_, (rfl : V.bl _ = V.bl _), ?_⟩ | refine ⟨_, (rfl : V.int _ = V.int _), ?_⟩)
local macro_rules | `(tactic| walk_at "rd") => `(tactic| repeat walk_at "rd1")
local macro_rules | `(tactic| walk_at "rs") => `(tactic| repeat walk_at "rs1")

section
variable {P : Program} {w : World} {K : PySem.W.Frag} {mg : Str → Option Value} {base : Heap}
/-- options as a list -/
def opV (op : Op) : List Int := [op.b, op.a, op.m, op.w]
def sp_law_options (K : PySem.W.Frag) : Sp := fun vs H Q E => ∃ A m l t R, vs = [.ref A.d, .ref l] ∧ DeckAt K H A m ∧ m < 1000000 ∧ SqT K H l (t.ls.map V.int) ∧ TkOk t R ∧
  ∀ H' p op m', Go A.all H H' → DeckAt K H' A m' → m' ≤ m + 1000 → H p = none → H' p = some (.lst ((opV op).map V.int)) → OpOk t op → Q (.ref p) H'
theorem ok_law_options (T : Txt K mg) : Has P w K mg base (1 + 1) (He.ga K "_law_options") ["_law_deck_here", "_law_lengths"] [] (sp_law_options K) := by
  refine has_of (fd_law_options T) sc_law_options (fun _ _ _ _ _ _ us hl => match us, hl with | [_, _], _ => rfl) (fun vs H Q E h => ?_) fun cdv A outer s H vs Q E hr h => ⟨_, (pss_cons (ps_set (i := 2) sc_law_options.nd rfl (Or.inl rfl) (pe_callH (ok_law_draw T) (hr.mono (by decide)) (by rfl) (g_law_draw T) (pa_cons (pv 0) (pa_cons pe_int pa_nil))))
      (pss_cons (ps_set (i := 3) sc_law_options.nd rfl (Or.inl rfl) (pe_op op_add (pe_callB (cr_maxT rfl) (by rfl) (b_max T) bt_max (pa_cons (pv 1) pa_nil)) (pe_callH (ok_law_draw T) (hr.mono (by decide)) (by rfl) (g_law_draw T) (pa_cons (pv 0) (pa_cons (pe_ix ix_list (pe_lst (pa_cons pe_int (pa_cons pe_int (pa_cons pe_int pa_nil)))) (pe_callH (ok_law_draw T) (hr.mono (by decide)) (by rfl) (g_law_draw T) (pa_cons (pv 0) (pa_cons pe_int pa_nil))) (fun _ _ => rfl)) pa_nil)))))
      (pss_cons (ps_set (i := 4) sc_law_options.nd rfl (Or.inl rfl) (pe_lst (pa_cons (pe_op op_add pe_int (pe_callH (ok_law_draw T) (hr.mono (by decide)) (by rfl) (g_law_draw T) (pa_cons (pv 0) (pa_cons pe_int pa_nil)))) (pa_cons (pe_op op_add pe_int (pe_callH (ok_law_draw T) (hr.mono (by decide)) (by rfl) (g_law_draw T) (pa_cons (pv 0) (pa_cons pe_int pa_nil)))) (pa_cons (pv 3) (pa_cons (pe_callH (ok_law_draw T) (hr.mono (by decide)) (by rfl) (g_law_draw T) (pa_cons (pv 0) (pa_cons pe_int pa_nil))) pa_nil))))))
      (pss_cons (ps_if (pt_cmpR op_eq (pe_callH (ok_law_draw T) (hr.mono (by decide)) (by rfl) (g_law_draw T) (pa_cons (pv 0) (pa_cons pe_int pa_nil))) pe_int (nomark _)) (pss_one (ps_set (i := 4) sc_law_options.nd rfl (Or.inl rfl) (pe_lst (pa_cons (pe_op op_add pe_int (pe_callH (ok_law_draw T) (hr.mono (by decide)) (by rfl) (g_law_draw T) (pa_cons (pv 0) (pa_cons pe_int pa_nil)))) (pa_cons (pe_op op_add pe_int (pe_callH (ok_law_draw T) (hr.mono (by decide)) (by rfl) (g_law_draw T) (pa_cons (pv 0) (pa_cons pe_int pa_nil)))) (pa_cons (pe_callB (call_max2 rfl) (by rfl) (b_max T) bt_max (pa_cons (pv 3) (pa_cons (pe_op op_add pe_int (pe_callH (ok_law_draw T) (hr.mono (by decide)) (by rfl) (g_law_draw T) (pa_cons (pv 0) (pa_cons pe_int pa_nil)))) pa_nil))) (pa_cons pe_int pa_nil))))))) pss_nil)
      (pss_one (ps_ret (pe_ix ix_list (pe_lst (pa_cons (pv 4) (pa_cons (pe_lst (pa_cons pe_int (pa_cons pe_int (pa_cons pe_int (pa_cons pe_int pa_nil))))) pa_nil))) (pe_callTy call_int1 (by rfl) (b_int T) bt_int (pa_cons (pe_cmpR op_eq (pv 2) pe_int (nomark _)) pa_nil)) (fun _ _ => rfl)))))))), ?_⟩
  · obtain ⟨A, m, l, t, R, rfl, _⟩ := h
    rfl
  obtain ⟨A, m, l, t, R, rfl, hd, hm, hl, ok, hq⟩ := h
  walk_at "rd"
  refine ⟨A, m, 4, rfl, hd, by omega, by decide, by decide, fun H1 told g hd t0 t4 => ?_⟩
  replace hl := g.tup hl
  walk_at "rd"
  refine ⟨l, t.ls, rfl, hl, ok.l0, fun mx hmx hall => ?_⟩
  have hmx2 := ok.ls _ hmx
  walk_at "rd"
  refine newLst fun e1 H2 g2 f1 he1 => ?_
  have ne1 := (hd.off f1).1
  replace hd := hd.go0 g2
  replace g := g.trans0 g2
  walk_at "rd"
  refine ⟨A, m + 1, 3, rfl, hd, by omega, by decide, by decide, fun H3 k3 g3 hd a0 a3 => ?_⟩
  replace g := g.trans' g3
  have hz : ∃ z, atI [V.int 1, V.int 9, V.int 60] k3 = some (.int z) ∧ 1 ≤ z ∧ z ≤ 60 := by
    have hk : k3 = 0 ∨ k3 = 1 ∨ k3 = 2 := by omega
    rcases hk with rfl | rfl | rfl
    · exact ⟨_, rfl, by omega, by omega⟩
    · exact ⟨_, rfl, by omega, by omega⟩
    · exact ⟨_, rfl, by omega, by omega⟩
  obtain ⟨z, ez, z1, z60⟩ := hz
  refine c_ixL (sqL (g3.chg _ _ he1 ne1)) ez ?_
  walk_at "rd"
  refine ⟨A, m + 2, z, rfl, hd, by omega, by omega, by omega, fun H4 k4 g4 hd b0 b3 => ?_⟩
  replace g := g.trans' g4
  walk_at "rd"
  refine ⟨A, m + 3, 12, rfl, hd, by omega, by decide, by decide, fun H5 k5 g5 hd b50 b53 => ?_⟩
  replace g := g.trans' g5
  walk_at "rd"
  refine ⟨A, m + 4, 12, rfl, hd, by omega, by decide, by decide, fun H6 k6 g6 hd b60 b63 => ?_⟩
  replace g := g.trans' g6
  walk_at "rd"
  refine ⟨A, m + 5, 4, rfl, hd, by omega, by decide, by decide, fun H7 k7 g7 hd b70 b73 => ?_⟩
  replace g := g.trans' g7
  walk_at "rd"
  refine newLst fun e2 H8 g8 f8 he2 => ?_
  have off2 := hd.off f8
  have fe2 : H e2 = none := g.free f8 off2.1
  replace hd := hd.go0 g8
  replace g := g.trans0 g8
  walk_at "rs1"
  with_reducible refine c_seqC (fun σ' H' => σ'[0]? = some (some (.ref A.d)) ∧ σ'[2]? = some (some (.int told)) ∧ σ'.length = 5 ∧ Go A.all H H' ∧ ∃ m' e op, m' ≤ m + 20 ∧ DeckAt K H' A m' ∧ σ'[4]? = some (some (.ref e)) ∧ H e = none ∧ H' e = some (.lst ((opV op).map V.int)) ∧ OpOk t op) (fun σ' H9 zz => ?_) fun N hN => ?_
  · clear hd g
    obtain ⟨s0, s2, sl, g, m', e, op, hm', hd, s4, fe, he, oo⟩ := zz
    match σ', s0, s2, s4, sl with
    | [c0, c1, c2, c3, c4], s0, s2, s4, _ =>
    cases s0
    cases s2
    cases s4
    walk_at "rd"
    refine newLst fun e3 K1 j1 f1 h1 => ?_
    walk_at "rd"
    refine newLst fun e4 K2 j2 f2 h2 => ?_
    have n34 : e3 ≠ e := fun z => by rw [z, he] at f1; cases f1
    have gg := j1.trans' j2
    walk_at "rd"
    refine .inr ⟨decide (told = 1), rfl, ?_⟩
    by_cases ht : told = 1
    · rw [decide_eq_true ht, if_pos rfl]
      refine c_ixL (sqL h2) (atI_nat (j := 1) rfl) ?_
      walk_at "rd"
      refine hq _ e3 ⟨4, 8, 30, 0⟩ m' (g.trans0 gg) (hd.go0 gg) (by omega) (g.free f1 (hd.off f1).1) (j2.chg _ _ h1 (by simp)) ⟨by decide, by decide, by decide, by decide, fun l hl => ?_⟩
      have := (ok.ls l hl).2
      show l ≤ 30
      omega
    · rw [decide_eq_false ht, if_neg Bool.false_ne_true]
      refine c_ixL (sqL h2) (atI_nat (j := 0) rfl) ?_
      walk_at "rd"
      exact hq _ e op m' (g.trans0 gg) (hd.go0 gg) (by omega) fe (gg.chg _ _ he (by simp)) oo
  · walk_at "rd"
    refine ⟨A, m + 6, 8, rfl, hd, by omega, by decide, by decide, fun I1 x1 i1 hd q1 r1 => ?_⟩
    have gI := g.trans' i1
    walk_at "rd"
    refine ifd (fun hx => ?_) fun hx => ?_
    · walk_at "rd"
      refine ⟨A, m + 7, 400, rfl, hd, by omega, by decide, by decide, fun I2 x2 i2 hd q2 r2 => ?_⟩
      replace gI := gI.trans' i2
      walk_at "rd"
      refine ⟨A, m + 8, 400, rfl, hd, by omega, by decide, by decide, fun I3 x3 i3 hd q3 r3 => ?_⟩
      replace gI := gI.trans' i3
      walk_at "rd"
      refine ⟨A, m + 9, 301, rfl, hd, by omega, by decide, by decide, fun I4 x4 i4 hd q4 r4 => ?_⟩
      replace gI := gI.trans' i4
      walk_at "rd"
      refine ⟨_, _, rfl, ?_⟩
      walk_at "rd"
      refine newLst fun e5 I5 i5 f5 h5 => ?_
      have off5 := hd.off f5
      refine hN _ _ ⟨rfl, rfl, rfl, gI.trans0 i5, m + 10, e5, ⟨1 + x2, 1 + x3, if 100 + x4 > mx + k4 then 100 + x4 else mx + k4, 10⟩, by omega, hd.go0 i5, rfl, gI.free f5 off5.1, h5, ?_⟩
      refine ⟨by show 1 ≤ 1 + x2; omega, by show 1 ≤ 1 + x3; omega, by show (0 : Int) ≤ 10; decide, by show (10 : Int) ≤ 10; decide, fun l hl => ?_⟩
      have := hall l hl
      show l ≤ if 100 + x4 > mx + k4 then 100 + x4 else mx + k4
      split <;> omega
    · walk_at "rd"
      refine hN _ _ ⟨rfl, rfl, rfl, gI, m + 7, e2, ⟨1 + k5, 1 + k6, mx + k4, k7⟩, by omega, hd, rfl, fe2, i1.chg _ _ he2 off2.1, ?_⟩
      refine ⟨by show 1 ≤ 1 + k5; omega, by show 1 ≤ 1 + k6; omega, b70, by show k7 ≤ 10; omega, fun l hl => ?_⟩
      have := hall l hl
      show l ≤ mx + k4
      omega
/-! ### roads -/
def FrG (g : TG) (tb : TS) (D : Ends) (σ : L2.St) (xs : List V) (H1 : Hp) : Prop := ∃ j : Int, xs = [.int j] ∧ -(2 ^ 62) ≤ j ∧ j < 2 ^ 62 ∧ ∃ W : Nat → Nat → L2.St → Hp → Prop, (∃ m, W 0 m σ H1) ∧ ∀ i m σ H, W i m σ H →
  ((Itr 0 j.toNat).stop i H ∧ D.nx σ H) ∨ ((Itr 0 j.toNat).go i H ∧ ∃ N : L2.St → Hp → Prop, (∀ σ' H', N σ' H' → ∃ m', m' < m ∧ W (i + 1) m' σ' H') ∧ ∀ x H', (Itr 0 j.toNat).yld i H x H' → g x σ H' fun σ2 H2 => tb { D with nx := N, ct := N, bk := D.nx } σ2 H2)
theorem c_forG {ta : TA} {g : TG} {tb : TS} {D : Ends} {σ : L2.St} {H : Hp} (h : ta σ H fun xs H1 => FrG g tb D σ xs H1) : tFor (iRng1 ta) g tb D σ H := h
theorem forG {g : TG} {tb : TS} {D : Ends} {σ : L2.St} {H1 : Hp} {n : Nat} (hn : n ≤ 1000000) (Pv : Nat → L2.St → Hp → Prop) (h0 : Pv 0 σ H1)
    (hs : ∀ i σ H, i < n → Pv i σ H → g (.int (i : Nat)) σ H fun σ2 H2 => tb { D with nx := Pv (i + 1), ct := Pv (i + 1), bk := D.nx } σ2 H2) (hd : ∀ σ H, Pv n σ H → D.nx σ H) : FrG g tb D σ [.int (n : Nat)] H1 := by
  refine ⟨n, rfl, by omega, by omega, ?_⟩
  rw [Int.toNat_natCast]
  refine L2.for_it walk_range Pv h0 (fun _ _ _ _ _ => trivial) (fun i x σ H H' hi z y => ?_) hd
  obtain ⟨rfl, rfl⟩ := y
  have ez : V.int (0 + (i : Int)) = V.int i := by rw [Int.zero_add]
  show g (V.int (0 + (i : Int))) _ _ _
  rw [ez]
  exact hs i σ H' hi z
theorem StAt.snoc {H : Hp} {rs : List Addr} {ps : List (Int × Int)} {q : Addr} {x : Int × Int} (h : StAt K H rs ps) (hq : SqT K H q [.int x.1, .int x.2]) : StAt K H (rs ++ [q]) (ps ++ [x]) := by
  refine ⟨by rw [List.length_append, List.length_append, h.1]; rfl, fun j a b ea eb => ?_⟩
  by_cases hj : j < rs.length
  · rw [List.getElem?_append_left hj] at ea
    rw [List.getElem?_append_left (by rw [← h.1]; exact hj)] at eb
    exact h.2 j a b ea eb
  · rw [List.getElem?_append_right (by omega)] at ea
    rw [List.getElem?_append_right (by rw [← h.1]; omega), ← h.1] at eb
    have hz : j - rs.length = 0 := by
      have := (List.getElem?_eq_some_iff.mp ea).1
      simp at this
      omega
    rw [hz] at ea eb
    cases ea
    cases eb
    exact hq
theorem StAt.front {H : Hp} {rs : List Addr} {ps : List (Int × Int)} (h : StAt K H rs ps) : StAt K H rs.dropLast ps.dropLast := by
  refine ⟨by rw [List.length_dropLast, List.length_dropLast, h.1], fun j a b ea eb => ?_⟩
  rw [List.getElem?_dropLast] at ea eb
  split at ea
  · split at eb
    · exact h.2 j a b ea eb
    · cases eb
  · cases ea
theorem sum_le25 : ∀ l : List (Int × Int), (∀ p ∈ l, p.1 ≤ 25) → (l.map Prod.fst).sum ≤ 25 * l.length
  | [], _ => by simp
  | p :: l, h => by
    have h1 := sum_le25 l fun q hq => h q (List.mem_cons_of_mem _ hq)
    have h2 := h p List.mem_cons_self
    rw [List.map_cons, List.sum_cons, List.length_cons]
    omega
theorem cut_front (xs : List V) : cutV xs none (some (-1)) = xs.dropLast := by
  unfold cutV
  have e : HT.sIx xs.length xs.length (some (-1)) = xs.length - 1 := by
    show (if (-1 : Int) < 0 then ((-1 : Int) + (xs.length : Int)).toNat else min (-1 : Int).toNat xs.length) = _
    rw [if_pos (by decide)]
    omega
  rw [HT.sIx_none, e, List.drop_zero, Nat.sub_zero]
  exact List.dropLast_eq_take.symm
def sp_law_road (K : PySem.W.Frag) : Sp := fun vs H Q E => ∃ A m, vs = [.ref A.d] ∧ DeckAt K H A m ∧ m < 1000000 ∧
  ∀ (H' : Hp) (p : Addr) (ps : List (Int × Int)) (rs : List Addr) (m' : Nat), Go A.all H H' → DeckAt K H' A m' → m' ≤ m + 1000 → SqT K H' p (rs.map V.ref) → StAt K H' rs ps → RdOk ps → Q (.ref p) H'
theorem ok_law_road (T : Txt K mg) : Has P w K mg base (2 + 1) (He.ga K "_law_road") ["_law_deck_here"] [] (sp_law_road K) := by
  refine has_of (fd_law_road T) sc_law_road (fun _ _ _ _ _ _ us hl => match us, hl with | [_], _ => rfl) (fun vs H Q E h => ?_) fun cdv A outer s H vs Q E hr h => ⟨_, (pss_cons (ps_set (i := 1) sc_law_road.nd rfl (Or.inl rfl) (pe_lst pa_nil))
      (pss_cons (ps_for PassesOwn.never rfl (pi_range1 (by rfl) (b_range T) (pa_cons (pe_op op_add pe_int (pe_callH (ok_law_draw T) (hr.mono (by decide)) (by rfl) (g_law_draw T) (pa_cons (pv 0) (pa_cons pe_int pa_nil)))) pa_nil)) (pg_name (i := 2) sc_law_road.nd rfl (Or.inl rfl)) (pss_cons (ps_set (i := 3) sc_law_road.nd rfl (Or.inl rfl) (pe_ix ix_list (pe_lst (pa_cons (pe_op op_add pe_int (pe_callH (ok_law_draw T) (hr.mono (by decide)) (by rfl) (g_law_draw T) (pa_cons (pv 0) (pa_cons pe_int pa_nil)))) (pa_cons (pe_op op_add pe_int (pe_callH (ok_law_draw T) (hr.mono (by decide)) (by rfl) (g_law_draw T) (pa_cons (pv 0) (pa_cons pe_int pa_nil)))) (pa_cons (pe_op op_add pe_int (pe_callH (ok_law_draw T) (hr.mono (by decide)) (by rfl) (g_law_draw T) (pa_cons (pv 0) (pa_cons pe_int pa_nil)))) pa_nil)))) (pe_callH (ok_law_draw T) (hr.mono (by decide)) (by rfl) (g_law_draw T) (pa_cons (pv 0) (pa_cons pe_int pa_nil))) (fun _ _ => rfl)))
      (pss_cons (ps_set (i := 4) sc_law_road.nd rfl (Or.inl rfl) (pe_lst (pa_cons pe_int (pa_cons (pe_op op_add pe_int (pe_callH (ok_law_draw T) (hr.mono (by decide)) (by rfl) (g_law_draw T) (pa_cons (pv 0) (pa_cons pe_int pa_nil)))) (pa_cons (pe_op op_add pe_int (pe_callH (ok_law_draw T) (hr.mono (by decide)) (by rfl) (g_law_draw T) (pa_cons (pv 0) (pa_cons pe_int pa_nil)))) (pa_cons (pe_op op_add pe_int (pe_callH (ok_law_draw T) (hr.mono (by decide)) (by rfl) (g_law_draw T) (pa_cons (pv 0) (pa_cons pe_int pa_nil)))) pa_nil))))))
      (pss_one (ps_expr (pe_bm PySem.F.plainAttrs_list PySem.F.slot_list_append PySem.F.type_list_append mt_append (pv 1) (pa_cons (pe_tup (pa_cons (pv 3) (pa_cons (pe_callH (ok_law_pick T) (hr.mono (by decide)) (by rfl) (g_law_pick T) (pa_cons (pv 0) (pa_cons (pv 4) pa_nil))) pa_nil))) pa_nil)))))))
      (pss_one (ps_ret (pe_callTy call_tupR (by rfl) (b_tuple T) bt_tuple (pa_cons (pe_op op_cat (pe_slice sl_list (pv 1) po_none (po_some (pe_un un_neg pe_int))) (pe_lst (pa_cons (pe_tup (pa_cons (pe_ix ix_tup (pe_ix ix_list (pv 1) (pe_un un_neg pe_int) (fun _ _ => rfl)) pe_int (fun _ _ => rfl)) (pa_cons (pe_op op_add pe_int (pe_ix ix_tup (pe_ix ix_list (pv 1) (pe_un un_neg pe_int) (fun _ _ => rfl)) pe_int (fun _ _ => rfl))) pa_nil))) pa_nil))) pa_nil)))))), ?_⟩
  · obtain ⟨A, m, rfl, _⟩ := h
    rfl
  obtain ⟨A, m, rfl, hd, hm, hq⟩ := h
  walk_at "rd"
  refine newLst fun F H1 g f1 hF => ?_
  have off := hd.off f1
  have nF := off.1
  replace hd := hd.go0 g
  replace g := g.mono (S' := A.all) fun a z => by cases z
  walk_at "rs1"
  walk_at "rs1"
  refine c_forG ?_
  walk_at "rd"
  refine ⟨A, m, 4, rfl, hd, by omega, by decide, by decide, fun H2 n0 g2 hd a0 a4 => ?_⟩
  replace hF := g2.chg _ _ hF nF
  replace g := g.trans' g2
  obtain ⟨n, hn⟩ : ∃ n : Nat, (n : Int) = 1 + n0 := ⟨(1 + n0).toNat, Int.toNat_of_nonneg (by omega)⟩
  walk_at "rd"
  rw [← hn]
  refine forG (by omega) (fun i σ' H' => ∃ m', m' ≤ m + 1 + 9 * i ∧ Go A.all H H' ∧ DeckAt K H' A m' ∧ ∃ (ps : List (Int × Int)) (rs : List Addr), ps.length = i ∧ H' F = some (.lst (rs.map V.ref)) ∧ StAt K H' rs ps ∧ (∀ p ∈ ps, 1 ≤ p.1 ∧ p.1 ≤ 25 ∧ 0 ≤ p.2) ∧ σ'[0]? = some (some (.ref A.d)) ∧ σ'[1]? = some (some (.ref F)) ∧ σ'.length = 5)
    ⟨m + 1, by omega, g, hd, [], [], rfl, hF, ⟨rfl, fun i r q e _ => by simp at e⟩, by simp, rfl, rfl, rfl⟩ (fun i σ' H' hi z => ?_) fun σ' H' z => ?_
  · clear hF hd g g2
    obtain ⟨m', hm', g, hd, ps, rs, hpl, hF, hst, hps, s0, s1, sl⟩ := z
    match σ', s0, s1, sl with
    | [c0, c1, c2, c3, c4], s0, s1, _ =>
    cases s0
    cases s1
    walk_at "rd"
    refine ⟨A, m', 9, rfl, hd, by omega, by decide, by decide, fun J1 x1 gc hd p1 q1 => ?_⟩
    walk_at "rd"
    refine ⟨A, m' + 1, 5, rfl, hd, by omega, by decide, by decide, fun J2 x2 j2 hd p2 q2 => ?_⟩
    replace gc := gc.trans' j2
    walk_at "rd"
    refine ⟨A, m' + 2, 25, rfl, hd, by omega, by decide, by decide, fun J3 x3 j3 hd p3 q3 => ?_⟩
    replace gc := gc.trans' j3
    walk_at "rd"
    refine newLst fun e1 J4 j4 f4 h4 => ?_
    have ne1 := (hd.off f4).1
    replace hd := hd.go0 j4
    replace gc := gc.trans0 j4
    walk_at "rd"
    refine ⟨A, m' + 3, 3, rfl, hd, by omega, by decide, by decide, fun J5 x5 j5 hd p5 q5 => ?_⟩
    replace gc := gc.trans' j5
    have hb : ∃ b, atI [V.int (1 + x1), V.int (8 + x2), V.int (1 + x3)] x5 = some (.int b) ∧ 1 ≤ b ∧ b ≤ 25 := by
      have hk : x5 = 0 ∨ x5 = 1 ∨ x5 = 2 := by omega
      rcases hk with rfl | rfl | rfl
      · exact ⟨_, rfl, by omega, by omega⟩
      · exact ⟨_, rfl, by omega, by omega⟩
      · exact ⟨_, rfl, by omega, by omega⟩
    obtain ⟨b, eb, b1, b2⟩ := hb
    refine c_ixL (sqL (j5.chg _ _ h4 ne1)) eb ?_
    walk_at "rd"
    refine ⟨A, m' + 4, 9, rfl, hd, by omega, by decide, by decide, fun J6 x6 j6 hd p6 q6 => ?_⟩
    replace gc := gc.trans' j6
    walk_at "rd"
    refine ⟨A, m' + 5, 3, rfl, hd, by omega, by decide, by decide, fun J7 x7 j7 hd p7 q7 => ?_⟩
    replace gc := gc.trans' j7
    walk_at "rd"
    refine ⟨A, m' + 6, 200, rfl, hd, by omega, by decide, by decide, fun J8 x8 j8 hd p8 q8 => ?_⟩
    replace gc := gc.trans' j8
    walk_at "rd"
    refine newLst fun e2 J9 j9 f9 h9 => ?_
    have off2 := hd.off f9
    replace hd := hd.go0 j9
    replace gc := gc.trans0 j9
    have h9' : J9 e2 = some (.lst (List.map V.int [0, 1 + x6, 9 + x7, 30 + x8])) := h9
    walk_at "rd"
    refine bmL (gc.chg _ _ hF nF) ?_
    walk_at "rd"
    refine ⟨A, m' + 7, e2, [0, 1 + x6, 9 + x7, 30 + x8], rfl, hd, by omega, h9', off2.2.2.1, off2.2.2.2, Nat.le_of_ble_eq_true rfl, Nat.le_of_ble_eq_true rfl, fun J10 v j10 hd hv => ?_⟩
    replace gc := gc.trans' j10
    have hv0 : 0 ≤ v := by
      simp only [List.mem_cons, List.not_mem_nil, or_false] at hv
      omega
    walk_at "rd"
    refine newTup fun q J11 j11 _ hq1 => ?_
    replace hd := hd.go0 j11
    replace gc := gc.trans0 j11
    walk_at "rd"
    have hF2 := gc.chg _ _ hF nF
    refine c_app hF2 (by rw [List.length_map, hst.1, hpl]; exact Nat.lt_of_lt_of_le hi (Nat.le_trans (show n ≤ 4 by omega) (by decide))) ?_
    have em : rs.map V.ref ++ [V.ref q] = (rs ++ [q]).map V.ref := by rw [List.map_append]; rfl
    rw [em]
    have gd : Go [F] J11 (upd J11 F (.lst ((rs ++ [q]).map V.ref))) := Go.mut (by simp) hF2 rfl
    refine ⟨m' + 8, by omega, (g.trans' gc).updF f1, hd.wr off, ps ++ [(b, v)], rs ++ [q], by rw [List.length_append, hpl]; rfl, upd_same, StAt.snoc ((hst.go gc).go gd) (gd.tup (sqT hq1)), fun p hp => ?_, rfl, rfl, rfl⟩
    rcases List.mem_append.mp hp with e | e
    · exact hps p e
    · rw [List.mem_singleton.mp e]
      exact ⟨b1, b2, hv0⟩
  · clear hF hd g g2
    obtain ⟨m', hm', g, hd, ps, rs, hpl, hF, hst, hps, s0, s1, sl⟩ := z
    match σ', s0, s1, sl with
    | [c0, c1, c2, c3, c4], s0, s1, _ =>
    cases s0
    cases s1
    have hpn : ps.length - 1 < ps.length := by omega
    have hrn : ps.length - 1 < rs.length := by rw [hst.1]; exact hpn
    have hlast := hst.2 _ _ _ (List.getElem?_eq_getElem hrn) (List.getElem?_eq_getElem hpn)
    have hx1 := hps _ (List.getElem_mem hpn)
    have hrl : atI (rs.map V.ref) (-1) = some (.ref rs[ps.length - 1]) := by
      have e1 : rs.map V.ref = (rs.map V.ref).dropLast ++ [.ref rs[ps.length - 1]] := by
        have hne : rs.map V.ref ≠ [] := by
          intro z
          have := congrArg List.length z
          rw [List.length_map] at this
          simp at this
          rw [this] at hrn
          simp at hrn
        have e2 := List.dropLast_concat_getLast hne
        have e3 : (rs.map V.ref).getLast hne = .ref rs[ps.length - 1] := by
          rw [List.getLast_eq_getElem, List.getElem_map]
          simp only [List.length_map, hst.1]
        rw [e3] at e2
        exact e2.symm
      rw [e1]
      exact atI_last _ _
    generalize rs[ps.length - 1] = r0 at hlast hrl
    generalize hx : ps[ps.length - 1] = x at hlast hx1
    walk_at "rd"
    refine ⟨F, _, rfl, sqL hF, fun p1 hp1 => ?_⟩
    rw [show (-(1 : Int)) = -1 from rfl, cut_front]
    have j1 := Go.new (S := []) (o := HO.lst (rs.map V.ref).dropLast) hp1
    have h1 : (upd H' p1 (.lst (rs.map V.ref).dropLast)) p1 = some (.lst (rs.map V.ref).dropLast) := upd_same
    generalize upd H' p1 (.lst (rs.map V.ref).dropLast) = K1 at j1 h1
    walk_at "rd"
    refine c_ixL (sqL (j1.chg _ _ hF (by simp))) hrl ?_
    walk_at "rd"
    refine c_ixT (j1.tup hlast) (i := 0) rfl ?_
    walk_at "rd"
    refine c_ixL (sqL (j1.chg _ _ hF (by simp))) hrl ?_
    walk_at "rd"
    refine c_ixT (j1.tup hlast) (i := 1) rfl ?_
    walk_at "rd"
    refine newTup fun q K2 j2 _ h2 => ?_
    walk_at "rd"
    refine newLst fun e3 K3 j3 _ h3 => ?_
    have gg := (j1.trans' j2).trans' j3
    refine ⟨p1, e3, _, _, rfl, rfl, j3.chg _ _ (j2.chg _ _ h1 (by simp)) (by simp), h3, ?_, fun p4 hp4 => ?_⟩
    · rw [List.length_dropLast, List.length_map, hst.1]
      exact Nat.le_trans (show ps.length - 1 + 1 ≤ 4 by omega) (by decide)
    have j4 := Go.new (S := []) (o := HO.lst ((rs.map V.ref).dropLast ++ [V.ref q])) hp4
    have h4 : (upd K3 p4 (.lst ((rs.map V.ref).dropLast ++ [V.ref q]))) p4 = some (.lst ((rs.map V.ref).dropLast ++ [V.ref q])) := upd_same
    generalize upd K3 p4 (.lst ((rs.map V.ref).dropLast ++ [V.ref q])) = K4 at j4 h4
    walk_at "rd"
    refine tupL h4 fun p5 K5 j5 _ h5 => ?_
    have g5 := (gg.trans' j4).trans' j5
    have em : (rs.map V.ref).dropLast ++ [V.ref q] = (rs.dropLast ++ [q]).map V.ref := by rw [List.map_append, List.map_dropLast]; rfl
    rw [em] at h5
    have hqq : SqT K K5 q [.int x.1, .int (20 + x.2)] := j5.tup (j4.tup (j3.tup (sqT h2)))
    refine hq _ p5 (ps.dropLast ++ [(x.1, 20 + x.2)]) _ m' (g.trans0 g5) (hd.go0 g5) (by omega) (sqT h5) (StAt.snoc (hst.go g5).front hqq) ?_
    have hmem : ∀ p ∈ ps.dropLast ++ [(x.1, 20 + x.2)], 1 ≤ p.1 ∧ p.1 ≤ 25 ∧ 0 ≤ p.2 := fun p hp => by
      rcases List.mem_append.mp hp with e | e
      · exact hps p ((List.dropLast_sublist _).subset e)
      · rw [List.mem_singleton.mp e]
        exact ⟨hx1.1, hx1.2.1, by show 0 ≤ 20 + x.2; omega⟩
    refine ⟨by simp, fun p hp => ⟨(hmem p hp).1, (hmem p hp).2.2⟩, ?_, ?_⟩
    · unfold lastV
      rw [List.getLastD_concat]
      show 1 ≤ 20 + x.2
      omega
    · have z1 := sum_le25 _ fun p hp => (hmem p hp).2.1
      have z2 : (ps.dropLast ++ [(x.1, 20 + x.2)]).length ≤ 4 := by
        rw [List.length_append, List.length_dropLast]
        show ps.length - 1 + 1 ≤ 4
        omega
      omega
/-! ### players, runs -/
def sp_law_player (K : PySem.W.Frag) : Sp := fun vs H Q E => ∃ ta l t op, vs = [.ref ta, .ref l] ∧ TalkAt K H ta t ∧ H l = some (.lst ((opV op).map V.int)) ∧ (∀ x ∈ t.ls, x ≤ op.m) ∧
  ∀ H' A, Go [] H H' → (∀ a ∈ A.all, H a = none) → PlayerAt K H' A ta op pk0 → Q (.ref A.p) H'
theorem ok_law_player (T : Txt K mg) : Has P w K mg base (4 + 1) (He.ga K "_law_player") ["_law_talk_here", "_law_told"] [] (sp_law_player K) := by
  refine has_of (fd_law_player T) sc_law_player (fun _ _ _ _ _ _ us hl => match us, hl with | [_, _], _ => rfl) (fun vs H Q E h => ?_) fun cdv A outer s H vs Q E hr h => ⟨_, (pss_cons (ps_asg (pv 1) (pg_unl (n := 4) rfl (pgs_cons (pg_name (i := 2) sc_law_player.nd rfl (Or.inl rfl)) (pgs_cons (pg_name (i := 3) sc_law_player.nd rfl (Or.inl rfl)) (pgs_cons (pg_name (i := 4) sc_law_player.nd rfl (Or.inl rfl)) (pgs_cons (pg_name (i := 5) sc_law_player.nd rfl (Or.inl rfl)) pgs_nil))))))
      (pss_cons (ps_if (pt_cmpR (op_eqD hr.units) (pv 1) (pe_lst (pa_cons pe_int (pa_cons pe_int (pa_cons pe_int (pa_cons pe_int pa_nil))))) (nomark _)) (pss_one (ps_ret (pe_makeH (mk_Player T) (ok_Player_init T) (hr.mono (by decide)) (by rfl) (g_Player T) (pa_cons (pv 0) pa_nil)))) pss_nil)
      (pss_cons (ps_if (pt_cmpR op_eq (pv 5) pe_int (nomark _)) (pss_one (ps_ret (pe_makeNH (mk_Player T) (ok_Player_init_mba T) (hr.mono (by decide)) (by rfl) (g_Player T) (pa_cons (pv 0) pa_nil) (pk_cons (pv 4) (pk_cons (pv 2) (pk_cons (pv 3) pk_nil)))))) pss_nil)
      (pss_one (ps_ret (pe_makeNH (mk_Player T) (ok_Player_init_wamb T) (hr.mono (by decide)) (by rfl) (g_Player T) (pa_cons (pv 0) pa_nil) (pk_cons (pv 5) (pk_cons (pv 3) (pk_cons (pv 4) (pk_cons (pv 2) pk_nil)))))))))), ?_⟩
  · obtain ⟨ta, l, t, op, rfl, _⟩ := h
    rfl
  obtain ⟨ta, l, t, op, rfl, ht, hl, hm, hq⟩ := h
  have fin : ∀ (H1 H2 : Hp) (x dx : Addr) (A : Pa), Go [] H H1 → H1 x = none → H1 dx = none → dx ≠ x → A.p = x → Go [x] (upd (upd H1 dx (.own x)) x (.ins (He.ga K "Player") dx [])) H2 → (∀ a ∈ A.all, a = x ∨ (upd (upd H1 dx (.own x)) x (.ins (He.ga K "Player") dx [])) a = none) → PlayerAt K H2 A ta op pk0 → Q (.ref x) H2 := by
    intro H1 H2 x dx A g hx hdx hne eA g2 fr hp
    rw [← eA]
    refine hq _ A (g.trans' (go_init hx hdx hne g2)) (fun a ha => ?_) hp
    rcases fr a ha with e | e
    · rw [e]
      exact g.free hx (by simp)
    · exact g.free ((go_made (C := He.ga K "Player") hx hdx hne).free e (by simp)) (by simp)
  walk_at "rd"
  refine c_unlG (xs := [.int op.b, .int op.a, .int op.m, .int op.w]) (sqL hl) rfl ?_
  walk_at "rd"
  refine newLst fun e H1 g _ he => ?_
  replace hl := g.chg _ _ hl (by simp)
  replace ht := ht.go g
  refine eqLL (ns := opV op) (ms := [4, 8, 30, 0]) hl he ?_
  walk_at "rd"
  refine ifd (fun h1 => ?_) fun h1 => ?_
  · have e1 : op.b = 4 ∧ op.a = 8 ∧ op.m = 30 ∧ op.w = 0 := by
      simpa [opV] using h1
    walk_at "rd"
    intro x dx hx hdx hne
    refine ⟨x, dx, ta, t, op, ?_, upd_same, ht.go (go_made hx hdx hne), hm, fun H2 A eA g2 fr hp => ⟨rfl, fin _ _ x dx A g hx hdx hne eA g2 fr hp⟩⟩
    rw [e1.1, e1.2.1, e1.2.2.1, e1.2.2.2]
    rfl
  · walk_at "rd"
    refine ifd (fun h2 => ?_) fun h2 => ?_
    · walk_at "rd"
      refine ⟨rfl, rfl, fun x dx hx hdx hne => ?_⟩
      refine ⟨x, dx, ta, t, op, ?_, upd_same, ht.go (go_made hx hdx hne), hm, fun H2 A eA g2 fr hp => ⟨rfl, fin _ _ x dx A g hx hdx hne eA g2 fr hp⟩⟩
      rw [h2]
      rfl
    · walk_at "rd"
      refine ⟨rfl, rfl, fun x dx hx hdx hne => ?_⟩
      exact ⟨x, dx, ta, t, op, rfl, upd_same, ht.go (go_made hx hdx hne), hm, fun H2 A eA g2 fr hp => ⟨rfl, fin _ _ x dx A g hx hdx hne eA g2 fr hp⟩⟩
def sp_law_run (K : PySem.W.Frag) : Sp := fun vs H Q E => ∃ ta ro ch l t R N op plan ps, vs = [.ref ta, .ref ro, .ref ch, .ref l] ∧ TalkAt K H ta t ∧ TkOk t R ∧ RoadAt K H ro ps ∧ ps ≠ [] ∧ H ch = some (.tup (plan.map V.int)) ∧ H l = some (.lst ((opV op).map V.int)) ∧
  (∀ l ∈ t.ls, l ≤ op.m) ∧ RunOk t plan op ps R N ∧ ∀ H' x, Go [] H H' → RunAt K H' x (wkN t plan op ps N) N → Q (.ref x) H'
theorem ok_law_run (T : Txt K mg) : Has P w K mg base (6 + 1) (He.ga K "_law_run") ["_law_talk_here", "_law_road_here", "_law_plan", "_law_told"] [] (sp_law_run K) := by
  refine has_of (fd_law_run T) sc_law_run (fun _ _ _ _ _ _ us hl => match us, hl with | [_, _, _, _], _ => rfl) (fun vs H Q E h => ?_) fun cdv A outer s H vs Q E hr h => ⟨_, (pss_cons (ps_if (pt_cmpR (op_eqD hr.units) (pv 3) (pe_lst (pa_cons pe_int (pa_cons pe_int (pa_cons pe_int (pa_cons pe_int pa_nil))))) (nomark _)) (pss_one (ps_ret (pe_callH (ok_run_of T) (hr.mono (by decide)) (by rfl) (g_run_of T) (pa_cons (pv 0) (pa_cons (pv 1) (pa_cons (pv 2) pa_nil)))))) pss_nil)
      (pss_one (ps_ret (pe_callNH (ok_run_of_wmab T) (hr.mono (by decide)) (by rfl) (g_run_of T) (pa_cons (pv 0) (pa_cons (pv 1) (pa_cons (pv 2) pa_nil))) (pk_cons (pe_ix ix_list (pv 3) pe_int (fun _ _ => rfl)) (pk_cons (pe_ix ix_list (pv 3) pe_int (fun _ _ => rfl)) (pk_cons (pe_ix ix_list (pv 3) pe_int (fun _ _ => rfl)) (pk_cons (pe_ix ix_list (pv 3) pe_int (fun _ _ => rfl)) pk_nil)))))))), ?_⟩
  · obtain ⟨ta, ro, ch, l, t, R, N, op, plan, ps, rfl, _⟩ := h
    rfl
  obtain ⟨ta, ro, ch, l, t, R, N, op, plan, ps, rfl, ht, ok, hro, hps, hch, hl, hm, r1, hq⟩ := h
  walk_at "rd"
  refine newLst fun e H1 g _ he => ?_
  replace hl := g.chg _ _ hl (by simp)
  replace ht := ht.go g
  replace hro := hro.go g
  replace hch := g.fix _ _ hch rfl
  refine eqLL (ns := opV op) (ms := [4, 8, 30, 0]) hl he ?_
  walk_at "rd"
  refine ifd (fun h1 => ?_) fun h1 => ?_
  · have e1 : op.b = 4 ∧ op.a = 8 ∧ op.m = 30 ∧ op.w = 0 := by
      simpa [opV] using h1
    walk_at "rd"
    refine ⟨ta, ro, ch, t, R, N, op, plan, ps, ?_, ht, ok, hro, hps, hch, hm, r1, fun H2 x g2 hx => hq _ _ (g.trans' g2) hx⟩
    rw [e1.1, e1.2.1, e1.2.2.1, e1.2.2.2]
    rfl
  · walk_at "rd"
    refine c_ixL (sqL hl) (atI_nat (j := 3) rfl) ?_
    walk_at "rd"
    refine c_ixL (sqL hl) (atI_nat (j := 2) rfl) ?_
    walk_at "rd"
    refine c_ixL (sqL hl) (atI_nat (j := 1) rfl) ?_
    walk_at "rd"
    refine c_ixL (sqL hl) (atI_nat (j := 0) rfl) ?_
    walk_at "rd"
    exact ⟨rfl, rfl, ta, ro, ch, t, R, N, op, plan, ps, rfl, ht, ok, hro, hps, hch, hm, r1, fun H2 x g2 hx => hq _ _ (g.trans' g2) hx⟩
end
end Rp
end
section
set_option Elab.async false
set_option linter.all false
set_option maxHeartbeats 1000000
/-! The plain law: over, beat by beat. -/
namespace Rp
open PySem PySem.Spec PyProof.Rows L2
section
variable {t : Tk} {R N : Nat} {op : Op} {plan : List Int} {ps : List (Int × Int)}
theorem wkChoose_s (W : Wk) : (wkChoose t plan op W).s = chS t op plan W.s := by
  unfold wkChoose chS
  split <;> rfl
theorem wkN_s (n : Nat) : (wkN t plan op ps (n + 1)).s = beatS t (chS t op plan (wkN t plan op ps n).s) (spd ps n) op.b op.a op.m := by
  show beatS t (wkChoose t plan op (wkN t plan op ps n)).s (spd ps n) op.b op.a op.m = _
  rw [wkChoose_s]
/-- over goes as the run goes -/
theorem ov_run (r : RunOk t plan op ps R N) : ∀ (us : List Int) (k : Nat), k ≤ N → (∀ i (h : i < us.length), us[i] = spd ps (k + i)) →
    ov t op plan us (wkN t plan op ps k).s = ((wkN t plan op ps (min (k + us.length) N)).s, min (k + us.length) N - k)
  | [], k, hk, _ => by
    have e : min (k + ([] : List Int).length) N = k := by simp; omega
    rw [e, Nat.sub_self]
    rfl
  | v :: us, k, hk, h => by
    by_cases e : k = N
    · have e2 : min (k + (v :: us).length) N = N := by simp; omega
      rw [ov_end (by rw [e]; exact r.fin), e2, e, Nat.sub_self]
    · have hlt : k < N := by omega
      rw [ov, if_neg (r.go k hlt)]
      have hv : v = spd ps k := h 0 (by simp)
      have hb : beatS t (chS t op plan (wkN t plan op ps k).s) v op.b op.a op.m = (wkN t plan op ps (k + 1)).s := by rw [hv, wkN_s]
      rw [hb]
      have ih := ov_run r us (k + 1) hlt fun i hi => by
        have z := h (i + 1) (by simp; omega)
        rw [List.getElem_cons_succ] at z
        rw [z]
        congr 1
        omega
      rw [ih]
      have e3 : min (k + 1 + us.length) N = min (k + (v :: us).length) N := by simp; omega
      rw [e3]
      show _ = ((wkN t plan op ps (min (k + (v :: us).length) N)).s, _)
      congr 1
      simp
      omega
/-! ### stalls -/
def grpStep (st : List (Int × Int)) (b : Int) : List (Int × Int) := if st ≠ [] ∧ lastS st = b then st.dropLast ++ [((st.getLastD (0, 0)).1, (st.getLastD (0, 0)).2 + 1)] else st ++ [(b, 1)]
def grp (bs : List Int) : List (Int × Int) := bs.foldl grpStep []
/-- the beats of stalls -/
def wts (t : Tk) (plan : List Int) (op : Op) (ps : List (Int × Int)) : Nat → List Int
  | 0 => []
  | n + 1 => if (wkN t plan op ps (n + 1)).s.o = 2 then wts t plan op ps n ++ [(n : Int)] else wts t plan op ps n
theorem grp_snoc (bs : List Int) (b : Int) : grp (bs ++ [b]) = grpStep (grp bs) b := by
  unfold grp
  rw [List.foldl_append]
  rfl
theorem wts_len : ∀ n, (wts t plan op ps n).length ≤ n
  | 0 => Nat.le_refl _
  | n + 1 => by
    have := wts_len n
    unfold wts
    split
    · rw [List.length_append]; simp; omega
    · omega
theorem grp_run (ok : TkOk t R) (oo : OpOk t op) (po : PlOk t R plan) (ro : RdOk ps) : ∀ n, grp (wts t plan op ps n) = (wkN t plan op ps n).st
  | 0 => rfl
  | n + 1 => by
    have ih := grp_run ok oo po ro n
    have i0 := (wkN_inv ok oo po ro n).choose ok oo po
    have hst : (wkChoose t plan op (wkN t plan op ps n)).st = (wkN t plan op ps n).st := by
      unfold wkChoose
      split <;> rfl
    have hb := i0.b
    have hp := beat_p_cases (t := t) (s := (wkChoose t plan op (wkN t plan op ps n)).s) (spd ps n) op.b op.a op.m
    have hhi := fun ho => i0.s.hi ok oo ho (v := spd ps n)
    have e1 : (wkN t plan op ps (n + 1)).st = stNext (wkChoose t plan op (wkN t plan op ps n)).s (beatS t (wkChoose t plan op (wkN t plan op ps n)).s (spd ps n) op.b op.a op.m) (wkChoose t plan op (wkN t plan op ps n)).b (wkChoose t plan op (wkN t plan op ps n)).st := rfl
    have e2 : (wkN t plan op ps (n + 1)).s = beatS t (wkChoose t plan op (wkN t plan op ps n)).s (spd ps n) op.b op.a op.m := rfl
    have h2 := i0.s2
    have h1 := i0.s1
    have ho3 := i0.s.ok.o
    rw [hst] at h2 h1
    rw [e1, hst, hb]
    unfold wts
    rw [e2]
    generalize wkChoose t plan op (wkN t plan op ps n) = W at *
    generalize hs' : beatS t W.s (spd ps n) op.b op.a op.m = s' at *
    generalize (wkN t plan op ps n).st = st at *
    unfold stNext
    by_cases ho : s'.o = 2
    · have hpp : s'.p = W.s.p := by
        rcases hp with ⟨z, _⟩ | ⟨_, z⟩
        · exact z
        · omega
      rw [if_pos ho, grp_snoc, ih, if_neg (by omega), if_pos ho]
      unfold grpStep
      by_cases ho1 : W.s.o = 1
      · rw [if_pos ho1, if_neg (fun z => by
          have := h1 (by omega) z.1
          omega)]
      · rw [if_neg ho1]
        have ho2 : W.s.o = 2 := by
          rcases ho3 with z | z | z
          · have := hhi z ho
            omega
          · exact absurd z ho1
          · exact z
        rw [if_pos (h2 ho2)]
    · rw [if_neg ho, ih]
      by_cases hpl : W.s.p < s'.p
      · rw [if_pos hpl]
      · rw [if_neg hpl, if_neg ho]
/-- the end: all chosen as planned, nothing kept -/
theorem run_end (ok : TkOk t R) (oo : OpOk t op) (po : PlOk t R plan) (ro : RdOk ps) (r : RunOk t plan op ps R N) :
    (wkN t plan op ps N).r = plan ∧ (wkN t plan op ps N).s = ⟨t.ls.length, -1, 0, 0, t.ls.sum, 1⟩ := by
  have i := wkN_inv ok oo po ro N
  obtain ⟨h1, h2, h3, h4⟩ := i.s.over ok r.fin
  refine ⟨?_, ?_⟩
  · rw [i.r, h1, cN0 h2, ← po.len]
    exact List.take_length
  · have ho : (wkN t plan op ps N).s.o = 1 := by
      cases hN : N with
      | zero =>
        have z := r.fin
        rw [hN] at z
        have z : (0 : Int) = t.ls.sum := z
        have := (sum_ls ok).1
        omega
      | succ n =>
        have hne := r.go n (by omega)
        have e2 := wkN_s (t := t) (op := op) (plan := plan) (ps := ps) n
        have ep : (chS t op plan (wkN t plan op ps n).s).p = (wkN t plan op ps n).s.p := by
          unfold chS
          split <;> rfl
        rcases beat_p_cases (t := t) (s := chS t op plan (wkN t plan op ps n).s) (spd ps n) op.b op.a op.m with ⟨z, _⟩ | ⟨_, z⟩
        · rw [← e2, ep] at z
          have f := r.fin
          rw [hN, z] at f
          exact absurd f hne
        · rw [← e2] at z
          exact z
    have hp := r.fin
    generalize wkN t plan op ps N = W at *
    obtain ⟨⟨n, c, g, k, p, o⟩, _, _, _, _, _, _, _, _, _⟩ := W
    simp only at h1 h2 h3 h4 ho hp
    rw [h1, h2, h3, h4, ho, hp]
end
end Rp
end
section
set_option Elab.async false
set_option linter.all false
set_option maxRecDepth 100000
set_option maxHeartbeats 4000000
namespace Rp
open PySem PySem.Spec PyProof.Rows L2
local macro_rules | `(tactic| walk_at "rd1") => `(tactic| with_reducible first
  | refine c_seq ?_ | refine c_asg ?_ | refine c_drop ?_ | refine c_ret ?_ | refine c_ifS ?_ | refine c_brk ?_ | refine c_name ?_
  | refine c_gcons ?_ | refine c_gnil ?_ | refine c_var (by with_unfolding_all rfl) ?_ | refine c_op ?_ | refine c_un ?_ | refine c_c ?_
  | refine c_I0 ?_ | refine c_U ?_ | refine c_ip ?_ | refine c_eqI ?_ | refine c_neI ?_ | refine c_test ?_ | refine c_tB ?_
  | refine c_not ?_ | refine c_and ?_ | refine c_or ?_ | refine c_andV ?_ | refine c_orV ?_ | refine c_notV ?_ | refine c_if ?_
  | refine c_cons ?_ | refine c_nil ?_ | refine c_tupN ?_ | refine c_lstN ?_ | refine c_CB ?_ | refine c_call ?_ | refine c_meth ?_ | refine c_fld ?_ | refine c_sfld ?_ | refine c_gfld ?_
  | refine c_aug (by with_unfolding_all rfl) ?_ | refine c_fldaug ?_ | refine c_sl ?_ | refine c_noPart ?_ | refine c_part ?_ | refine c_callN ?_ | refine c_bm ?_ | refine c_bm0 ?_ | refine c_make ?_ | refine c_makeK ?_ | refine c_asg2 ?_ | refine c_asg3 ?_ | refine c_itT ?_ | refine c_itN ?_ | refine c_itNT ?_ | refine c_itF ?_ | refine c_chain ?_ | refine c_next ?_ | refine ⟨_, (rfl : V.bl _ = V.bl _), ?_⟩ | refine ⟨_, (rfl : V.int _ = V.int _), ?_⟩)
local macro_rules | `(tactic| walk_at "rs1") => `(tactic| with_reducible first
  | refine c_seq ?_ | refine c_asg ?_ | refine c_drop ?_ | refine c_ret ?_ | refine c_brk ?_ | refine c_name ?_
  | refine c_gcons ?_ | refine c_gnil ?_ | refine c_var (by with_unfolding_all rfl) ?_ | refine c_op ?_ | refine c_un ?_ | refine c_c ?_
  | refine c_I0 ?_ | refine c_U ?_ | refine c_ip ?_ | refine c_eqI ?_ | refine c_neI ?_ | refine c_test ?_ | refine c_tB ?_
  | refine c_not ?_ | refine c_and ?_ | refine c_or ?_ | refine c_andV ?_ | refine c_orV ?_ | refine c_notV ?_ | refine c_if ?_
  | refine c_cons ?_ | refine c_nil ?_ | refine c_tupN ?_ | refine c_lstN ?_ | refine c_CB ?_ | refine c_call ?_ | refine c_meth ?_ | refine c_fld ?_ | refine c_sfld ?_ | refine c_gfld ?_
  | refine c_aug (by with_unfolding_all rfl) ?_ | refine c_fldaug ?_ | refine c_sl ?_ | refine c_noPart ?_ | refine c_part ?_ | refine c_callN ?_ | refine c_bm ?_ | refine c_bm0 ?_ | refine c_make ?_ | refine c_makeK ?_ | refine c_asg2 ?_ | refine c_asg3 ?_ | refine c_itT ?_ | refine c_itN ?_ | refine c_itNT ?_ | refine c_itF ?_ | refine c_chain ?_ | refine c_next ?_ | refine ⟨_, (rfl : V.bl _ = V.bl _), ?_⟩ | refine ⟨_, (rfl : V.int _ = V.int _), ?_⟩)
local macro_rules | `(tactic| walk_at "rd") => `(tactic| repeat walk_at "rd1")
local macro_rules | `(tactic| walk_at "rs") => `(tactic| repeat walk_at "rs1")

/-! ### heaps of which the tables may grow -/
structure GoT (S : List Addr) (H H' : Hp) : Prop where
  chg : ∀ b o, H b = some o → (∀ ps, o ≠ .tbl ps) → ¬ b ∈ S → H' b = some o
  fix : ∀ b o, H b = some o → fixO o = true → H' b = some o
section
variable {K : PySem.W.Frag} {S S' : List Addr} {H H1 H2 H' : Hp}
theorem Go.toT (g : Go S H H') : GoT S H H' := ⟨fun b o e _ n => g.chg b o e n, g.fix⟩
theorem GoT.trans' (a : GoT S H H1) (b : GoT S H1 H2) : GoT S H H2 := ⟨fun c o e t n => b.chg c o (a.chg c o e t n) t n, fun c o e f => b.fix c o (a.fix c o e f) f⟩
theorem GoT.mono (a : GoT S H H1) (h : ∀ a, a ∈ S → a ∈ S') : GoT S' H H1 := ⟨fun c o e t n => a.chg c o e t fun z => n (h c z), a.fix⟩
theorem GoT.tup {a : Addr} {xs : List V} (g : GoT S H H1) (h : SqT K H a xs) : SqT K H1 a xs := by
  rcases h with (h | ⟨o, h⟩) | h
  · exact .inl (.inl (g.fix _ _ h rfl))
  · exact .inl (.inr ⟨o, g.fix _ _ h rfl⟩)
  · exact .inr h
theorem NtAt.goT {ps : List Addr} {st : List (Str × Str)} (h : NtAt K H ps st) (g : GoT S H H') : NtAt K H' ps st := ⟨h.1, fun i p q e1 e2 => g.tup (h.2 i p q e1 e2)⟩
theorem StAt.goT {ps : List Addr} {st : List (Int × Int)} (h : StAt K H ps st) (g : GoT S H H') : StAt K H' ps st := ⟨h.1, fun i p q e1 e2 => g.tup (h.2 i p q e1 e2)⟩
theorem TalkAt.goT {a : Addr} {t : Tk} (h : TalkAt K H a t) (g : GoT S H H') : TalkAt K H' a t := by
  obtain ⟨dx, l, z, rs, h1, h2, h3, h4⟩ := h.ex
  exact ⟨dx, l, z, rs, g.fix _ _ h1 fix_talk, g.tup h2, g.tup h3, h4.1, fun i a row e1 e2 => g.tup (h4.2 i a row e1 e2)⟩
theorem RunAt.goT {x : Addr} {W : Wk} {N : Nat} (h : RunAt K H x W N) (g : GoT S H H') : RunAt K H' x W N := by
  obtain ⟨dx, a1, a2, a3, a4, a5, a6, ps, h0, h1, h2, h3, h4, h5, h6, h7⟩ := h.ex
  exact ⟨dx, a1, a2, a3, a4, a5, a6, ps, g.fix _ _ h0 fix_run, g.fix _ _ h1 rfl, g.fix _ _ h2 rfl, g.fix _ _ h3 rfl, g.fix _ _ h4 rfl, g.fix _ _ h5 rfl, h6.goT g, g.fix _ _ h7 rfl⟩
theorem PlayerAt.goT {A : Pa} {ta : Addr} {op : Op} {W : Pk} (h : PlayerAt K H A ta op W) (g : GoT S H H') (hd : ∀ a ∈ A.all, ¬ a ∈ S) : PlayerAt K H' A ta op W := by
  obtain ⟨dx, lo, sa, e1, e2, e3⟩ := h.ob
  obtain ⟨ps, p1, p2⟩ := h.nt
  exact ⟨⟨dx, lo, sa, g.chg _ _ e1 (fun _ z => by cases z) (hd _ (by simp [Pa.all])), g.tup e2, g.tup e3⟩, ⟨ps, g.chg _ _ p1 (fun _ z => by cases z) (hd _ (by simp [Pa.all])), p2.goT g⟩, h.ne⟩
theorem DeckAt.goT {A : Da} {m : Nat} (h : DeckAt K H A m) (g : GoT S H H') (h1 : ¬ A.d ∈ S) (h2 : ¬ A.l0 ∈ S) (h3 : ¬ A.l1 ∈ S) : DeckAt K H' A m := by
  obtain ⟨n0, a1, a2⟩ := h.l0
  obtain ⟨n1, b1, b2⟩ := h.l1
  exact ⟨g.chg _ _ h.d (fun _ z => by cases z) h1, ⟨n0, g.chg _ _ a1 (fun _ z => by cases z) h2, a2⟩, ⟨n1, g.chg _ _ b1 (fun _ z => by cases z) h3, b2⟩, h.n1, h.n2, h.n3⟩
/-- the table of the lambdas -/
abbrev TabsAt (PT : Addr) (H : Hp) : Prop := LamX.Tabs [(PT, lamQ)] H
theorem tabs_go {PT : Addr} (h : TabsAt PT H) (g : Go S H H') (hn : ¬ PT ∈ S) : TabsAt PT H' := fun p hp => by
  obtain ⟨ps, h1, h2, h3⟩ := h p hp
  have e : p.1 = PT := by rw [List.mem_singleton.mp hp]
  refine ⟨ps, g.chg _ _ h1 (by rw [e]; exact hn), h2, fun pos cv hc => ?_⟩
  obtain ⟨c, e1, e2⟩ := h3 pos cv hc
  exact ⟨c, e1, g.fix _ _ e2 rfl⟩
theorem tabs_at {PT : Addr} (h : TabsAt PT H) : ∃ ps, H PT = some (.tbl ps) := by
  obtain ⟨ps, h1, _⟩ := h (PT, lamQ) (List.mem_singleton.mpr rfl)
  exact ⟨ps, h1⟩
theorem tabs_off {PT : Addr} {A : Da} {m : Nat} (h : TabsAt PT H) (hd : DeckAt K H A m) : ¬ PT ∈ A.all := fun z => by
  obtain ⟨pst, hpt⟩ := tabs_at h
  obtain ⟨n0, q0, _⟩ := hd.l0
  simp only [Da.all, List.mem_cons, List.not_mem_nil, or_false] at z
  rcases z with z | z
  · rw [z, hd.d] at hpt; cases hpt
  · rw [z, q0] at hpt; cases hpt
theorem tabs_offP {PT : Addr} {B : Pa} {ta : Addr} {op : Op} {W : Pk} (h : TabsAt PT H) (hp : PlayerAt K H B ta op W) : ¬ PT ∈ B.all := fun z => by
  obtain ⟨pst, hpt⟩ := tabs_at h
  obtain ⟨dx, lo, sa, e1, _⟩ := hp.ob
  obtain ⟨ps, p1, _⟩ := hp.nt
  simp only [Pa.all, List.mem_cons, List.not_mem_nil, or_false] at z
  rcases z with z | z
  · rw [z, e1] at hpt; cases hpt
  · rw [z, p1] at hpt; cases hpt
theorem cut_whole {xs : List V} {lo hi : Option Int} (z : HT.sIx xs.length 0 lo = 0 ∧ HT.sIx xs.length xs.length hi = xs.length) : cutV xs lo hi = xs := by
  unfold cutV
  rw [z.1, z.2, List.drop_zero, Nat.sub_zero, List.take_length]
end
section
variable {X : Cx} {k j : Nat} {C g cc P : Addr} {ps : List Str} {m kw nm : Str} {sp : Sp} {T : List (Addr × Str)} {params : Arguments} {body : Expr} {scope : Scope} {o e : Expr} {ta te : TE} {apos pos lpos kpos : Pos}
theorem pe_methLamH {pl : Sem Bool} (he : PE X o ta) (cl : Cls X.K C) (hm : Meth X.K C m g) (G : HasL X.prog X.w X.K X.mg X.base k g ps kw sp) (hr : Room k X.A) (ha : PE X e te)
    (TB : LamX.TabB X.base X.mg cc P) (hcode : X.env.code = .ref cc) (hmT : (P, X.env.qual ++ "<lambda>") ∈ T) (hu : ∀ p ∈ T, p.1 = P → p.2 = X.env.qual ++ "<lambda>") (hdef : defaultsOf params X.env = ([], []))
    (hfree : ∀ y ∈ scope.names, y.2 = .free → y.1 = nm) (hcell : X.env.scope.names.lookup nm = some .cell) (hfn : X.fn nm = true) (hclo : ∀ cells : List (Str × Addr), cloFrom cells scope.names [] = [(nm, (cells.lookup nm).getD 0)]) (hNj : X.N[j]? = some nm)
    (hst : starEach [e] X.env = (false, eval e X.env) :: starEach [] X.env := by rfl)
    (hpl : ((backTo pos (starEach [e] X.env)).any (·.1) || (backToKw pos (keywordEach [⟨some kw, .Lambda params body scope lpos, kpos⟩] X.env)).any (·.1.isNone)) = false := by rfl)
    (hall : (backToKw pos (keywordEach [⟨some kw, .Lambda params body scope lpos, kpos⟩] X.env)).all (·.1.isSome) = true := by rfl)
    (hks : (backToKw pos (keywordEach [⟨some kw, .Lambda params body scope lpos, kpos⟩] X.env)).filterMap (·.1) = [kw] := by rfl)
    (hkv : (backToKw pos (keywordEach [⟨some kw, .Lambda params body scope lpos, kpos⟩] X.env)).map (·.2) = [(do let v ← eval (.Lambda params body scope lpos) X.env; standAt pos; pure v)] := by rfl)
    (ht : eval (.Call (.Attribute o m apos) [e] [⟨some kw, .Lambda params body scope lpos, kpos⟩] pos) X.env = (do
      let ov ← eval o X.env
      standAt apos.atName
      let (f, first) ← holding [ov] (getMethod ov m pl)
      callWith pos f first (backTo pos (starEach [e] X.env)) (backToKw pos (keywordEach [⟨some kw, .Lambda params body scope lpos, kpos⟩] X.env))) := by rfl) :
    PE X (.Call (.Attribute o m apos) [e] [⟨some kw, .Lambda params body scope lpos, kpos⟩] pos) (tMethLam X.base T C m sp j (X.env.qual ++ "<lambda>") params body scope nm ta te) := by
  obtain ⟨fd, F, hb⟩ := G.ex
  exact pe_methLam he cl hm F hr hb ha TB hcode hmT hu hdef hfree hcell hfn hclo hNj hst hpl hall hks hkv ht
end
section
variable {P : Program} {w : World} {K : PySem.W.Frag} {mg : Str → Option Value} {base : Heap} {PT : Addr}
theorem ok_Player_over_L (T : Txt K mg) : HasL P w K mg base (6 + 1) (He.ma K (He.ga K "Player") "over") ["self", "speeds", "rule"] "rule" (sp_Player_over base K) :=
  hasL_of (fd_Player_over T) sc_Player_over (fun _ _ _ _ _ _ _ _ _ => rfl) len_Player_over (bd_Player_over T)
theorem ok_Player_over (T : Txt K mg) : Has P w K mg base (6 + 1) (He.ma K (He.ga K "Player") "over") ["self", "speeds", "rule"] [V.non] (sp_Player_over base K) :=
  hasB_of (P := P) (w := w) (base := base) (k := 6) 2 (fd_Player_over T) sc_Player_over (fun z => nomatch z) rfl
    (fun _ _ _ _ _ _ us ks h1 h2 => match us, ks, h1, h2 with | [_, _], [_], _, _ => ⟨_, _, _, _, _, _, rfl, rfl, rfl⟩) len_Player_over (bd_Player_over T)
def spds (ps : List (Int × Int)) (L : Nat) : List Int := (List.range L).map fun i => spd ps i
def sp_law_over_all (base : Heap) (PT : Addr) (K : PySem.W.Frag) : Sp := fun vs H Q E => ∃ (A : Da) (m : Nat) (B : Pa) (ta : Addr) (t : Tk) (R : Nat) (op : Op) (plan : List Int) (ps : List (Int × Int)) (N : Nat) (sa pl : Addr) (z : Int) (L : Nat),
  vs = [.ref A.d, .ref B.p, .ref sa, .ref pl, .int z] ∧ (z = 600 ∨ z = 0) ∧ DeckAt K H A m ∧ m + L + 1000 < 1000000000 ∧ PlayerAt K H B ta op pk0 ∧ TalkAt K H ta t ∧ TkOk t R ∧ OpOk t op ∧ PlOk t R plan ∧ RdOk ps ∧ RunOk t plan op ps R N ∧
  SqT K H sa ((spds ps L).map V.int) ∧ N ≤ L ∧ L ≤ 100000 ∧ H pl = some (.tup (plan.map V.int)) ∧ TabsAt PT H ∧ (∀ a ∈ B.all, ¬ a ∈ A.all ∧ a ≠ A.l1) ∧
  ∀ H' W m', GoT (A.all ++ B.all) H H' → DeckAt K H' A m' → m' ≤ m + L → TabsAt PT H' → PlayerAt K H' B ta op W → W.s = (wkN t plan op ps N).s → W.bg = N → Q (.int (N : Nat)) H'
theorem bd_law_over_all (T : Txt K mg) (TB : LamX.TabB base mg (He.codeOf K ("_law_over_all", none)) PT) (cdv : Value) (hcode : cdv = .ref (He.codeOf K ("_law_over_all", none))) (A : Around) (outer : List Env) (s : Shared) (H : Hp) (vs : List V) (Q : VK) (E : XK) (hr : Room 7 (A.deeper (envOfC "_law_over_all" (defScope s_law_over_all) s.heap.objs.size (He.ga K "_law_over_all") cdv))) (h : sp_law_over_all base PT K vs H Q E) :
    ∃ t, PSs (cxOf CX0 P w K mg base ["_law_deck_here", "_law_player_here", "_law_speeds", "_law_plan", "_law_size", "_law_passed", "_law_at", "_law_many"] "_law_over_all" (defScope s_law_over_all) (He.ga K "_law_over_all") cdv A outer s H E).nox (defBody s_law_over_all) t ∧ t { nx := fun _ H' => Q .non H', rt := Q } (start ["_law_deck_here", "_law_player_here", "_law_speeds", "_law_plan", "_law_size", "_law_passed", "_law_at", "_law_many"] vs) H := by
  refine ⟨_, (pss_cons (ps_set (i := 5) sc_law_over_all.nd rfl (Or.inl rfl) pe_int)
      (pss_cons (ps_set (i := 6) sc_law_over_all.nd rfl (Or.inl rfl) pe_int)
      (pss_cons (ps_while PassesOwn.never (pt_cmpR op_lt (pv 6) (pe_callB call_lenR (by rfl) (b_len T) bt_len (pa_cons (pv 2) pa_nil)) (nomark _)) (pss_cons (ps_set (i := 7) sc_law_over_all.nd rfl (Or.inl rfl) (pe_ix ix_list (pe_lst (pa_cons (pv 4) (pa_cons (pe_op op_add pe_int (pe_callH (ok_law_draw T) (hr.mono (by decide)) (by rfl) (g_law_draw T) (pa_cons (pv 0) (pa_cons pe_int pa_nil)))) pa_nil))) (pe_callTy call_int1 (by rfl) (b_int T) bt_int (pa_cons (pe_cmpR op_eq (pv 4) pe_int (nomark _)) pa_nil)) (fun _ _ => rfl)))
      (pss_cons (ps_set (i := 5) sc_law_over_all.nd rfl (Or.inl rfl) (pe_op op_add (pv 5) (pe_methLamH (j := 3) (nm := "_law_plan") (kw := "rule") (T := [(PT, lamQ)]) (pv 1) (c_Player T) (m_Player_over T) (ok_Player_over_L T) (hr.mono (by decide)) (pe_slice sl_tupA (pv 2) (po_some (pv 6)) (po_some (pe_op op_add (pv 6) (pv 7)))) TB hcode (List.mem_singleton.mpr rfl) (fun p hp _ => by rw [List.mem_singleton.mp hp]; rfl) rfl (by decide +kernel) rfl rfl (fun _ => rfl) rfl)))
      (pss_one (ps_set (i := 6) sc_law_over_all.nd rfl (Or.inl rfl) (pe_op op_add (pv 6) (pv 7)))))))
      (pss_one (ps_ret (pv 5)))))), ?_⟩
  obtain ⟨A, m, B, ta, t, R, op, plan, ps, N, sa, pl, z, L, rfl, hz, hd, hm, hp, ht, ok, oo, po, ro, r1, hsa, hNL, hL, hpl, htab, hdis, hq⟩ := h
  have hbk : ∀ a ∈ B.all, ¬ a ∈ A.all ∧ a ≠ A.l1 := hdis
  have dB : ¬ A.d ∈ B.all := fun z => (hbk _ z).1 (by simp [Da.all])
  have l0B : ¬ A.l0 ∈ B.all := fun z => (hbk _ z).1 (by simp [Da.all])
  have l1B : ¬ A.l1 ∈ B.all := fun z => (hbk _ z).2 rfl
  have bA : ∀ a ∈ B.all, ¬ a ∈ A.all := fun a ha => (hbk a ha).1
  have hsl : (spds ps L).length = L := by simp [spds]
  walk_at "rd"
  refine ⟨fun μ σ' H' => ∃ (k m' : Nat) (W : Pk), μ = L - k ∧ m' ≤ m + min k L ∧ GoT (A.all ++ B.all) H H' ∧ DeckAt K H' A m' ∧ TabsAt PT H' ∧ PlayerAt K H' B ta op W ∧ W.s = (wkN t plan op ps (min k N)).s ∧ W.bg = (min k N : Nat) ∧ W.nt.length ≤ k ∧ k ≤ L + 100000 ∧
      σ'[0]? = some (some (.ref A.d)) ∧ σ'[1]? = some (some (.ref B.p)) ∧ σ'[2]? = some (some (.ref sa)) ∧ σ'[3]? = some (some (.ref pl)) ∧ σ'[4]? = some (some (.int z)) ∧ σ'[5]? = some (some (.int (min k N : Nat))) ∧ σ'[6]? = some (some (.int (k : Nat))) ∧ σ'.length = 8,
    ⟨L, 0, m, pk0, rfl, by omega, (Go.refl (S := A.all ++ B.all)).toT, hd, htab, hp, by rw [Nat.zero_min]; rfl, by rw [Nat.zero_min]; rfl, Nat.le_refl _, by omega, rfl, rfl, rfl, rfl, rfl, by rw [Nat.zero_min]; rfl, rfl, rfl⟩, ?_⟩
  clear hd htab hp
  rintro μ σ' H' ⟨k, m', W, rfl, hm', g, hd, htab, hp, hs, hb, hnt, hk, s0, s1, s2, s3, s4, s5, s6, sl⟩
  match σ', s0, s1, s2, s3, s4, s5, s6, sl with
  | [c0, c1, c2, c3, c4, c5, c6, c7], s0, s1, s2, s3, s4, s5, s6, _ =>
  cases s0
  cases s1
  cases s2
  cases s3
  cases s4
  cases s5
  cases s6
  replace ht := ht.goT g
  replace hsa := g.tup hsa
  replace hpl := g.fix _ _ hpl rfl
  walk_at "rd"
  refine ⟨sa, _, rfl, .inr hsa, ?_⟩
  rw [List.length_map, hsl]
  walk_at "rd"
  refine ifd (fun hlt => ?_) fun hge => ?_
  · have hlt : k < L := by omega
    refine ⟨fun σ' H' => ∃ (k2 m' : Nat) (W : Pk), k < k2 ∧ m' ≤ m + min k2 L ∧ GoT (A.all ++ B.all) H H' ∧ DeckAt K H' A m' ∧ TabsAt PT H' ∧ PlayerAt K H' B ta op W ∧ W.s = (wkN t plan op ps (min k2 N)).s ∧ W.bg = (min k2 N : Nat) ∧ W.nt.length ≤ k2 ∧ k2 ≤ L + 100000 ∧
      σ'[0]? = some (some (.ref A.d)) ∧ σ'[1]? = some (some (.ref B.p)) ∧ σ'[2]? = some (some (.ref sa)) ∧ σ'[3]? = some (some (.ref pl)) ∧ σ'[4]? = some (some (.int z)) ∧ σ'[5]? = some (some (.int (min k2 N : Nat))) ∧ σ'[6]? = some (some (.int (k2 : Nat))) ∧ σ'.length = 8, fun σ' H' zz => ?_, ?_⟩
    · obtain ⟨k2, m2, W2, h1, h2⟩ := zz
      exact ⟨L - k2, by omega, k2, m2, W2, rfl, h2⟩
    walk_at "rd"
    have hd0 := hd
    refine ⟨A, m', 41, rfl, hd, by omega, by decide, by decide, fun H1 d1 g1 hd d0 d41 => ?_⟩
    replace htab := tabs_go htab g1 (tabs_off htab hd0)
    replace hp := hp.go g1 bA
    replace ht := ht.go g1
    replace hsa := g1.tup hsa
    replace hpl := g1.fix _ _ hpl rfl
    replace g := g.trans' (g1.toT.mono (S' := A.all ++ B.all) fun a ha => List.mem_append.mpr (.inl ha))
    walk_at "rd"
    refine newLst fun e1 H2 g2 f2 h2 => ?_
    replace htab := tabs_go htab g2 (by simp)
    replace hp := hp.go0 g2
    replace ht := ht.go g2
    replace hd := hd.go0 g2
    replace hsa := g2.tup hsa
    replace hpl := g2.fix _ _ hpl rfl
    replace g := g.trans' (g2.toT.mono (S' := A.all ++ B.all) fun a ha => by cases ha)
    walk_at "rd"
    refine .inr ⟨_, rfl, ?_⟩
    obtain ⟨mn, emn, hmn1, hmn2⟩ : ∃ mn : Nat, atI [V.int z, V.int (20 + d1)] (if decide (z = 0) = true then 1 else 0) = some (.int (mn : Nat)) ∧ 1 ≤ mn ∧ mn ≤ 600 := by
      rcases hz with hz | hz
      · subst hz
        exact ⟨600, rfl, by decide, by decide⟩
      · subst hz
        exact ⟨(20 + d1).toNat, by rw [Int.toNat_of_nonneg (by omega)]; rfl, by omega, by omega⟩
    refine c_ixL (sqL h2) emn ?_
    walk_at "rd"
    obtain ⟨dx, lo, st, e1', e2', e3'⟩ := hp.ob
    refine ⟨.ref B.p, by with_unfolding_all rfl, B.p, dx, _, rfl, e1', lookup_zip_no (by decide +kernel), ?_⟩
    walk_at "rd"
    refine c_slA hsa (fun q H3 g3 hq3 => ?_) (fun zz => ?_)
    · replace htab := tabs_go htab g3 (by simp)
      replace hp := hp.go0 g3
      replace ht := ht.go g3
      replace hd := hd.go0 g3
      replace hsa := g3.tup hsa
      replace hpl := g3.fix _ _ hpl rfl
      replace g := g.trans' (g3.toT.mono (S' := A.all ++ B.all) fun a ha => by cases ha)
      -- the piece
      have ecut : cutV ((spds ps L).map V.int) (some ((k : Nat) : Int)) (some ((k : Nat) + (mn : Nat) : Int)) = (((spds ps L).drop k).take (min (k + mn) L - k)).map V.int := by
        unfold cutV
        rw [List.length_map, hsl, HT.sIx_nat, show ((k : Nat) : Int) + (mn : Nat) = ((k + mn : Nat) : Int) by omega, HT.sIx_nat, Nat.min_eq_left (by omega : k ≤ L), List.map_take, List.map_drop]
      rw [ecut] at hq3
      generalize hus : ((spds ps L).drop k).take (min (k + mn) L - k) = us at hq3
      have husl : us.length = min (k + mn) L - k := by
        rw [← hus, List.length_take, List.length_drop, hsl]
        omega
      have husi : ∀ i (h : i < us.length), us[i] = spd ps (k + i) := fun i h => by
        subst hus
        rw [List.getElem_take, List.getElem_drop]
        simp [spds]
      have husn : ∀ v ∈ us, 0 ≤ v := fun v hv => by
        obtain ⟨i, hi, rfl⟩ := List.mem_iff_getElem.mp hv
        rw [husi i hi]
        exact spd_nn ro _
      refine ⟨htab, .ref pl, by with_unfolding_all rfl, fun H4 H5 f c c' xN htab4 LI LA => ?_⟩
      have g4 : GoT [] H3 H4 := ⟨fun b o e tt _ => xN b o e tt, fun b o e ff => xN b o e fun pst zz => by rw [zz] at ff; cases ff⟩
      have g5 : Go [] H4 H5 := Go.of LI.same
      have gH4 := g.trans' (g4.mono (S' := A.all ++ B.all) fun a ha => by cases ha)
      have hd4 := hd.goT g4 (by simp) (by simp) (by simp)
      have offP := tabs_offP htab4 (hp.goT g4 (fun _ _ => by simp))
      replace hp := (hp.goT g4 (fun _ _ => by simp)).go0 g5
      replace ht := (ht.goT g4).go g5
      replace hq3 := g5.tup (g4.tup hq3)
      replace hpl := g5.fix _ _ (g4.fix _ _ hpl rfl) rfl
      have si : SI t R op W.s := by
        rw [hs]
        exact (wkN_inv ok oo po ro _).s
      have hov : ov t op plan us W.s = ((wkN t plan op ps (min (k + mn) N)).s, min (k + mn) N - min k N) := by
        rw [hs]
        by_cases hkN : k ≤ N
        · rw [Nat.min_eq_left hkN, ov_run r1 us k hkN husi, husl]
          have e9 : min (k + (min (k + mn) L - k)) N = min (k + mn) N := by omega
          rw [e9]
        · have ek : min k N = N := by omega
          have ek2 : min (k + mn) N = N := by omega
          rw [ek, ek2, ov_end r1.fin, Nat.sub_self]
      refine ⟨B, ta, op, W, t, R, plan, q, us, .ref f, rfl, hp, ht, ok, si, oo, po, hq3, husn, Nat.lt_of_le_of_lt (show W.nt.length ≤ 200000 by omega) (by decide), .inr ⟨f, rfl, .inr ⟨c, c', pl, LA, hpl⟩⟩, fun H6 W6 g6 hp6 k1 k2 k3 => ⟨fun b φ e => g6.fix _ _ e rfl, fun hff => ?_⟩⟩
      obtain ⟨ocl, ucl, hccl, _⟩ := LA.cel
      -- what is no extra is kept
      have key : ∀ b o, H6 b = some o → (∀ φ, o ≠ .ext φ) → delH (delH H6 c) f b = some o := fun b o e ne => by
        have nf : b ≠ f := fun zz => by
          rw [zz] at e
          rcases LI.xf with xx | ⟨φ, xx⟩
          · rw [hff xx] at e
            cases e
          · rw [g6.fix _ _ xx rfl] at e
            cases e
            exact ne _ rfl
        have nc : b ≠ c := fun zz => by
          rw [zz, g6.fix _ _ hccl rfl] at e
          cases e
          exact ne _ rfl
        rw [delH_ne nf, delH_ne nc]
        exact e
      have keyT : ∀ {a : Addr} {xs : List V}, SqT K H6 a xs → SqT K (delH (delH H6 c) f) a xs := fun h => by
        rcases h with (h | ⟨o, h⟩) | h
        · exact .inl (.inl (key _ _ h fun _ zz => by cases zz))
        · exact .inl (.inr ⟨o, key _ _ h fun _ zz => by cases zz⟩)
        · exact .inr h
      -- what stood ahead of the lambda is kept
      have key4 : ∀ b o, H4 b = some o → ¬ b ∈ B.all → delH (delH H6 c) f b = some o := fun b o e nb => by
        have nf : b ≠ f := ne_of_none e LI.nf
        have nc : b ≠ c := ne_of_none e LI.nc
        rw [delH_ne nf, delH_ne nc]
        exact g6.chg _ _ (LI.same _ _ e) nb
      have key4F : ∀ b o, H4 b = some o → fixO o = true → delH (delH H6 c) f b = some o := fun b o e ff => by
        have nf : b ≠ f := ne_of_none e LI.nf
        have nc : b ≠ c := ne_of_none e LI.nc
        rw [delH_ne nf, delH_ne nc]
        exact g6.fix _ _ (LI.same _ _ e) ff
      have gF : GoT (A.all ++ B.all) H (delH (delH H6 c) f) := ⟨fun b o e tt nb => key4 b o (gH4.chg b o e tt nb) fun zz => nb (List.mem_append.mpr (.inr zz)), fun b o e ff => key4F b o (gH4.fix b o e ff) ff⟩
      have hdF : DeckAt K (delH (delH H6 c) f) A (m' + 1) := by
        obtain ⟨n0, a1, a2⟩ := hd4.l0
        obtain ⟨n1, b1, b2⟩ := hd4.l1
        exact ⟨key4 _ _ hd4.d dB, ⟨n0, key4 _ _ a1 l0B, a2⟩, ⟨n1, key4 _ _ b1 l1B, b2⟩, hd4.n1, hd4.n2, hd4.n3⟩
      have htF : TabsAt PT (delH (delH H6 c) f) := fun p hp => by
        obtain ⟨pst, h1, h2, h3⟩ := htab4 p hp
        have e : p.1 = PT := by rw [List.mem_singleton.mp hp]
        refine ⟨pst, key4 _ _ h1 (by rw [e]; exact offP), h2, fun pos cv hc => ?_⟩
        obtain ⟨cc, e1, e2⟩ := h3 pos cv hc
        exact ⟨cc, e1, key4F _ _ e2 rfl⟩
      have hpF : PlayerAt K (delH (delH H6 c) f) B ta op W6 := by
        obtain ⟨dx6, lo6, sa6, u1, u2, u3⟩ := hp6.ob
        obtain ⟨ps6, p1, p2⟩ := hp6.nt
        exact ⟨⟨dx6, lo6, sa6, key _ _ u1 (fun _ zz => by cases zz), keyT u2, keyT u3⟩, ⟨ps6, key _ _ p1 (fun _ zz => by cases zz), p2.1, fun i a b e1 e2 => keyT (p2.2 i a b e1 e2)⟩, hp6.ne⟩
      clear key key4 key4F keyT
      generalize delH (delH H6 c) f = HF at gF hdF htF hpF
      rw [hov]
      rw [hov] at k1 k2
      walk_at "rd"
      refine ⟨k + mn, m' + 1, W6, by omega, by omega, gF, hdF, htF, hpF, k1, ?_, ?_, by omega, rfl, rfl, rfl, rfl, rfl, ?_, ?_, rfl⟩
      · rw [k2, hb]
        show ((min k N : Nat) : Int) + ((min (k + mn) N - min k N : Nat) : Int) = ((min (k + mn) N : Nat) : Int)
        omega
      · rw [k3, List.length_append]
        show W.nt.length + 1 ≤ k + mn
        omega
      · show some (some (V.int (((min k N : Nat) : Int) + ((min (k + mn) N - min k N : Nat) : Int)))) = some (some (V.int ((min (k + mn) N : Nat) : Int)))
        rw [show ((min k N : Nat) : Int) + ((min (k + mn) N - min k N : Nat) : Int) = ((min (k + mn) N : Nat) : Int) by omega]
      · show some (some (V.int ((k : Nat) + (mn : Nat) : Int))) = some (some (V.int ((k + mn : Nat) : Int)))
        rw [show ((k : Nat) + (mn : Nat) : Int) = ((k + mn : Nat) : Int) by omega]
    · exact cut_whole zz
  · have hge : L ≤ k := by omega
    walk_at "rd"
    have ek : min k N = N := by omega
    rw [ek] at hs hb
    rw [ek]
    exact hq _ W m' g hd (by omega) htab hp hs hb
end
end Rp
end
section
set_option Elab.async false
set_option linter.all false
set_option maxRecDepth 100000
set_option maxHeartbeats 4000000
namespace Rp
open PySem PySem.Spec PyProof.Rows L2
local macro_rules | `(tactic| walk_at "rd1") => `(tactic| with_reducible first
  | refine c_seq ?_ | refine c_asg ?_ | refine c_drop ?_ | refine c_ret ?_ | refine c_ifS ?_ | refine c_brk ?_ | refine c_name ?_
  | refine c_gcons ?_ | refine c_gnil ?_ | refine c_var (by with_unfolding_all rfl) ?_ | refine c_op ?_ | refine c_un ?_ | refine c_c ?_
  | refine c_I0 ?_ | refine c_U ?_ | refine c_ip ?_ | refine c_eqI ?_ | refine c_neI ?_ | refine c_test ?_ | refine c_tB ?_
  | refine c_not ?_ | refine c_and ?_ | refine c_or ?_ | refine c_andV ?_ | refine c_orV ?_ | refine c_notV ?_ | refine c_if ?_
  | refine c_cons ?_ | refine c_nil ?_ | refine c_tupN ?_ | refine c_lstN ?_ | refine c_CB ?_ | refine c_call ?_ | refine c_meth ?_ | refine c_fld ?_ | refine c_sfld ?_ | refine c_gfld ?_
  | refine c_aug (by with_unfolding_all rfl) ?_ | refine c_fldaug ?_ | refine c_sl ?_ | refine c_noPart ?_ | refine c_part ?_ | refine c_callN ?_ | refine c_bm ?_ | refine c_bm0 ?_ | refine c_make ?_ | refine c_makeK ?_ | refine c_asg2 ?_ | refine c_asg3 ?_ | refine c_itT ?_ | refine c_itN ?_ | refine c_itNT ?_ | refine c_itF ?_ | refine c_chain ?_ | refine c_next ?_ | refine ⟨_, (rfl : V.bl _ = V.bl _), ?_⟩ | refine ⟨_, (rfl : V.int _ = V.int _), ?_⟩)
local macro_rules | `(tactic| walk_at "rs1") => `(tactic| with_reducible first
  | refine c_seq ?_ | refine c_asg ?_ | refine c_drop ?_ | refine c_ret ?_ | refine c_brk ?_ | refine c_name ?_
  | refine c_gcons ?_ | refine c_gnil ?_ | refine c_var (by with_unfolding_all rfl) ?_ | refine c_op ?_ | refine c_un ?_ | refine c_c ?_
  | refine c_I0 ?_ | refine c_U ?_ | refine c_ip ?_ | refine c_eqI ?_ | refine c_neI ?_ | refine c_test ?_ | refine c_tB ?_
  | refine c_not ?_ | refine c_and ?_ | refine c_or ?_ | refine c_andV ?_ | refine c_orV ?_ | refine c_notV ?_ | refine c_if ?_
  | refine c_cons ?_ | refine c_nil ?_ | refine c_tupN ?_ | refine c_lstN ?_ | refine c_CB ?_ | refine c_call ?_ | refine c_meth ?_ | refine c_fld ?_ | refine c_sfld ?_ | refine c_gfld ?_
  | refine c_aug (by with_unfolding_all rfl) ?_ | refine c_fldaug ?_ | refine c_sl ?_ | refine c_noPart ?_ | refine c_part ?_ | refine c_callN ?_ | refine c_bm ?_ | refine c_bm0 ?_ | refine c_make ?_ | refine c_makeK ?_ | refine c_asg2 ?_ | refine c_asg3 ?_ | refine c_itT ?_ | refine c_itN ?_ | refine c_itNT ?_ | refine c_itF ?_ | refine c_chain ?_ | refine c_next ?_ | refine ⟨_, (rfl : V.bl _ = V.bl _), ?_⟩ | refine ⟨_, (rfl : V.int _ = V.int _), ?_⟩)
local macro_rules | `(tactic| walk_at "rd") => `(tactic| repeat walk_at "rd1")
local macro_rules | `(tactic| walk_at "rs") => `(tactic| repeat walk_at "rs1")

section
variable {P : Program} {w : World} {K : PySem.W.Frag} {mg : Str → Option Value} {base : Heap}
/-! ### stalls -/
theorem set_last {α : Type} {l : List α} (h : l ≠ []) (a : α) : l.set (l.length - 1) a = l.dropLast ++ [a] := by
  have e := List.dropLast_concat_getLast h
  generalize l.getLast h = x at e
  generalize l.dropLast = m at e
  subst e
  rw [List.length_append]
  simp
theorem dp_pairs {H : Hp} : ∀ {qs : List Addr} {st : List (Int × Int)}, StAt K H qs st → DpAll K H (qs.map V.ref) (st.map fun q => PyData.tuple [.int q.1, .int q.2])
  | [], [], _ => .nil
  | [], _ :: _, h => by have := h.1; simp at this
  | _ :: _, [], h => by have := h.1; simp at this
  | q :: qs, s :: st, h => .cons (.tup (h.2 0 q s rfl rfl) (.cons (.int _) (.cons (.int _) .nil))) (dp_pairs ⟨by have := h.1; simpa using this, fun i a b e1 e2 => h.2 (i + 1) a b e1 e2⟩)
theorem shaped_pairs (st : List (Int × Int)) : SeqAt.shaped (.list (st.map fun q => PyData.tuple [.int q.1, .int q.2])) = true := by
  have h : ∀ st : List (Int × Int), PyData.canLayAll0 (st.map fun q => PyData.tuple [.int q.1, .int q.2]) = true ∧ PyData.depthAll (st.map fun q => PyData.tuple [.int q.1, .int q.2]) ≤ 2 := by
    intro st
    induction st with
    | nil => exact ⟨by simp [PyData.canLayAll0], by simp [PyData.depthAll]⟩
    | cons q st ih =>
      refine ⟨?_, ?_⟩
      · rw [List.map_cons]
        simp only [PyData.canLayAll0, PyData.canLay0, Bool.true_and, ih.1]
      · rw [List.map_cons]
        have := ih.2
        simp only [PyData.depthAll, PyData.depth]
        omega
  obtain ⟨h1, h2⟩ := h st
  simp only [SeqAt.shaped, PyData.canLay0, PyData.depth, Bool.and_eq_true, decide_eq_true_eq]
  exact ⟨h1, decide_eq_true (by omega)⟩
theorem eqv_nil (ds : List PyData) : PyData.eqv (.list ds) (.list []) = decide (ds = []) := by
  cases ds with
  | nil => simp [PyData.eqv, PyData.eqvAll]
  | cons d ds => simp [PyData.eqv, PyData.eqvAll]
theorem sum2 (a b : Int) : ([a, b] : List Int).sum = a + b := by simp
def sp_law_stalls (K : PySem.W.Frag) : Sp := fun vs H Q E => ∃ (l : Addr) (bs : List Int), vs = [.ref l] ∧ H l = some (.lst (bs.map V.int)) ∧ bs.length ≤ 1000 ∧ ∀ (H' : Hp) (p : Addr) (qs : List Addr), Go [] H H' → H' p = some (.tup (qs.map V.ref)) → StAt K H' qs (grp bs) → Q (.ref p) H'
theorem ok_law_stalls (T : Txt K mg) : Has P w K mg base (0 + 1) (He.ga K "_law_stalls") ["_law_beats"] [] (sp_law_stalls K) := by
  refine has_of (fd_law_stalls T) sc_law_stalls (fun _ _ _ _ _ _ us hl => match us, hl with | [_], _ => rfl) (fun vs H Q E h => ?_) fun cdv A outer s H vs Q E hr h => ⟨_, (pss_cons (ps_set (i := 1) sc_law_stalls.nd rfl (Or.inl rfl) (pe_lst pa_nil))
      (pss_cons (ps_for PassesOwn.never rfl (pi_list (pv 0)) (pg_name (i := 2) sc_law_stalls.nd rfl (Or.inl rfl)) (pss_one (ps_if (PW.pt (pw_and (pt_cmpR (op_neD hr.units) (pv 1) (pe_lst pa_nil) (nomark _)) (pw_and1 (pt_cmpR op_eq (pe_callB (cr_sumT rfl) (by rfl) (b_sum T) bt_sum (pa_cons (pe_ix ix_list (pv 1) (pe_un un_neg pe_int) (fun _ _ => rfl)) pa_nil)) (pv 2) (nomark _))))) (pss_one (ps_asg (pe_tup (pa_cons (pe_ix ix_tup (pe_ix ix_list (pv 1) (pe_un un_neg pe_int) (fun _ _ => rfl)) pe_int (fun _ _ => rfl)) (pa_cons (pe_op op_add (pe_ix ix_tup (pe_ix ix_list (pv 1) (pe_un un_neg pe_int) (fun _ _ => rfl)) pe_int (fun _ _ => rfl)) pe_int) pa_nil))) (pg_sub (pv 1) (pe_un un_neg pe_int) set_list))) (pss_one (ps_expr (pe_bm PySem.F.plainAttrs_list PySem.F.slot_list_append PySem.F.type_list_append mt_append (pv 1) (pa_cons (pe_tup (pa_cons (pv 2) (pa_cons pe_int pa_nil))) pa_nil)))))))
      (pss_one (ps_ret (pe_callTy call_tupR (by rfl) (b_tuple T) bt_tuple (pa_cons (pv 1) pa_nil)))))), ?_⟩
  · obtain ⟨l, bs, rfl, _⟩ := h
    rfl
  obtain ⟨l, bs, rfl, hl, hbs, hq⟩ := h
  have hl0 := hl
  walk_at "rd"
  refine newLst fun F H1 g1 f1 hF => ?_
  walk_at "rs1"
  walk_at "rs1"
  replace hl := g1.chg _ _ hl (by simp)
  refine ⟨.ref l, by with_unfolding_all rfl, l, rfl, ⟨_, sqL hl⟩, ?_⟩
  refine L2.for_it (walk_list (xs := bs.map V.int)) (fun i σ' H' => Go [] H H' ∧ H' l = some (.lst (bs.map V.int)) ∧ ∃ qs : List Addr, H' F = some (.lst (qs.map V.ref)) ∧ StAt K H' qs (grp (bs.take i)) ∧ (grp (bs.take i)).length ≤ i ∧ σ'[1]? = some (some (.ref F)) ∧ σ'.length = 3)
    ⟨g1, hl, [], hF, ⟨rfl, fun i p q e _ => by simp at e⟩, Nat.le_refl _, rfl, rfl⟩ (fun i σ' H' _ z => sqL z.2.1) (fun i x σ' H' H2 hi z y => ?_) fun σ' H' z => ?_
  · obtain ⟨g, hl, qs, hF, hst, hsl, s1, sl⟩ := z
    obtain ⟨rfl, hx⟩ := y
    have hi' : i < bs.length := by simpa using hi
    have ex : x = .int bs[i] := by
      rw [List.getElem?_map, List.getElem?_eq_getElem hi'] at hx
      exact (Option.some.inj hx).symm
    subst ex
    have et : bs.take (i + 1) = bs.take i ++ [bs[i]] := by rw [List.take_add_one, List.getElem?_eq_getElem hi']; rfl
    have eg : grp (bs.take (i + 1)) = grpStep (grp (bs.take i)) bs[i] := by rw [et, grp_snoc]
    generalize grp (bs.take i) = st at hst hsl eg
    have hlast : st ≠ [] → ∃ r, atI (qs.map V.ref) (-1) = some (.ref r) ∧ SqT K H2 r [.int (st.getLastD (0, 0)).1, .int (st.getLastD (0, 0)).2] := fun hne => by
      have hp : st.length - 1 < st.length := by
        have := List.length_pos_iff.mpr hne
        omega
      have hq : st.length - 1 < qs.length := by rw [hst.1]; exact hp
      refine ⟨qs[st.length - 1], ?_, ?_⟩
      · have hne2 : qs.map V.ref ≠ [] := by
          intro z
          have := congrArg List.length z
          rw [List.length_map, hst.1] at this
          simp at this
          exact hne this
        have e2 := List.dropLast_concat_getLast hne2
        have e3 : (qs.map V.ref).getLast hne2 = .ref qs[st.length - 1] := by
          rw [List.getLast_eq_getElem, List.getElem_map]
          simp only [List.length_map, hst.1]
        rw [e3] at e2
        rw [← e2]
        exact atI_last _ _
      · have e4 : st.getLastD (0, 0) = st[st.length - 1] := by
          rw [List.getLastD_eq_getLast?, List.getLast?_eq_getElem?, List.getElem?_eq_getElem hp]
          rfl
        rw [e4]
        exact hst.2 _ _ _ (List.getElem?_eq_getElem hq) (List.getElem?_eq_getElem hp)
    match σ', s1, sl with
    | [c0, c1, c2], s1, _ =>
    cases s1
    walk_at "rs1"
    refine c_ifB (decide (st ≠ [] ∧ lastS st = bs[i])) (fun QB kk => ?_) fun H3 g3 => ?_
    · walk_at "rd"
      refine newLst fun e H4 g4 _ he => ?_
      refine ⟨_, _, .lst (sqL (g4.chg _ _ hF (by simp))) (dp_pairs (hst.go g4)), .lst (sqL he) .nil, shaped_pairs st, by decide +kernel, ?_⟩
      rw [eqv_nil]
      walk_at "rd"
      by_cases hne : st = []
      · subst hne
        rw [decide_eq_true (show ([] : List (Int × Int)).map (fun q => PyData.tuple [.int q.1, .int q.2]) = [] from rfl)]
        refine c_itF ?_
        have z := kk H4 g4
        rw [decide_eq_false (fun z => z.1 rfl)] at z
        exact z
      · rw [decide_eq_false (fun z => hne (List.map_eq_nil_iff.mp z))]
        refine c_itN ?_
        obtain ⟨r, h1, h2⟩ := hlast hne
        walk_at "rd"
        refine c_ixL (sqL (g4.chg _ _ hF (by simp))) h1 ?_
        walk_at "rd"
        refine ⟨r, [(st.getLastD (0, 0)).1, (st.getLastD (0, 0)).2], rfl, g4.tup h2, ?_⟩
        rw [sum2]
        walk_at "rd"
        have z := kk H4 g4
        have ee : decide (st ≠ [] ∧ lastS st = bs[i]) = decide ((st.getLastD (0, 0)).1 + (st.getLastD (0, 0)).2 = bs[i]) := by
          simp [hne, lastS]
        rw [ee] at z
        exact z
    · replace g := g.trans' g3
      replace hl := g3.chg _ _ hl (by simp)
      replace hF := g3.chg _ _ hF (by simp)
      replace hst := hst.go g3
      have nlF : l ≠ F := fun z => by
        rw [z] at hl0
        rw [f1] at hl0
        cases hl0
      refine ifd (fun h => ?_) fun h => ?_
      · obtain ⟨r, h1, h2⟩ := hlast h.1
        replace h2 := g3.tup h2
        rw [grpStep, if_pos h] at eg
        walk_at "rd"
        refine c_ixL (sqL hF) h1 ?_
        walk_at "rd"
        refine c_ixT h2 (i := 0) rfl ?_
        walk_at "rd"
        refine c_ixL (sqL hF) h1 ?_
        walk_at "rd"
        refine c_ixT h2 (i := 1) rfl ?_
        walk_at "rd"
        refine newTup fun q H4 g4 _ hq4 => ?_
        replace hF := g4.chg _ _ hF (by simp)
        replace hl := g4.chg _ _ hl (by simp)
        replace hst := hst.go g4
        walk_at "rd"
        refine c_sub ?_
        walk_at "rd"
        have hqne : qs ≠ [] := fun z => by
          have := hst.1
          rw [z] at this
          exact h.1 (List.length_eq_zero_iff.mp this.symm)
        have hqp : 0 < qs.length := List.length_pos_iff.mpr hqne
        refine ⟨F, _, -1, qs.length - 1, rfl, rfl, hF, ?_, ?_⟩
        · rw [List.length_map]
          unfold ixN
          rw [if_neg (by decide), if_pos (by omega)]
          congr 1
          omega
        have em : (qs.map V.ref).set (qs.length - 1) (.ref q) = (qs.dropLast ++ [q]).map V.ref := by
          rw [List.map_append, List.map_dropLast]
          have z := set_last (l := qs.map V.ref) (by simpa using hqne) (V.ref q)
          rw [List.length_map] at z
          exact z
        rw [em]
        have gd : Go [F] H4 (upd H4 F (.lst ((qs.dropLast ++ [q]).map V.ref))) := Go.mut (by simp) hF rfl
        refine ⟨(g.trans' g4).updF f1, by rw [upd_ne nlF]; exact hl, _, upd_same, ?_, ?_, rfl, rfl⟩
        · rw [eg]
          exact StAt.snoc ((hst.go gd).front) (gd.tup (sqT hq4))
        · rw [eg, List.length_append, List.length_dropLast]
          show st.length - 1 + 1 ≤ i + 1
          omega
      · rw [grpStep, if_neg h] at eg
        walk_at "rd"
        refine bmL hF ?_
        walk_at "rd"
        refine newTup fun q H4 g4 _ hq4 => ?_
        replace hF := g4.chg _ _ hF (by simp)
        replace hl := g4.chg _ _ hl (by simp)
        replace hst := hst.go g4
        walk_at "rd"
        refine c_app hF (by rw [List.length_map, hst.1]; exact Nat.lt_of_le_of_lt (show st.length ≤ 1000 by omega) (by decide)) ?_
        have em : qs.map V.ref ++ [V.ref q] = (qs ++ [q]).map V.ref := by rw [List.map_append]; rfl
        rw [em]
        have gd : Go [F] H4 (upd H4 F (.lst ((qs ++ [q]).map V.ref))) := Go.mut (by simp) hF rfl
        refine ⟨(g.trans' g4).updF f1, by rw [upd_ne nlF]; exact hl, _, upd_same, ?_, ?_, rfl, rfl⟩
        · rw [eg]
          exact StAt.snoc (hst.go gd) (gd.tup (sqT hq4))
        · rw [eg, List.length_append]
          show st.length + 1 ≤ i + 1
          omega
  · obtain ⟨g, hl, qs, hF, hst, hsl, s1, sl⟩ := z
    match σ', s1, sl with
    | [c0, c1, c2], s1, _ =>
    cases s1
    walk_at "rd"
    refine tupL hF fun p H5 g5 _ hp => ?_
    rw [List.length_map, List.take_length] at hst
    exact hq _ p qs (g.trans' g5) hp (hst.go g5)
/-! ### beat by beat -/
/-- the six told lists as tuples -/
structure ToldAt (K : PySem.W.Frag) (H : Hp) (x : Addr) (W : Wk) : Prop where
  ex : ∃ (a1 a2 a3 a4 a5 a6 : Addr) (qs : List Addr), H x = some (.lst [.ref a1, .ref a2, .ref a3, .ref a4, .ref a5, .ref a6]) ∧
    H a1 = some (.tup (W.r.map V.int)) ∧ H a2 = some (.tup (W.g.map V.int)) ∧ H a3 = some (.tup (W.f.map V.int)) ∧ H a4 = some (.tup (W.p.map V.int)) ∧ H a5 = some (.tup (qs.map V.ref)) ∧ StAt K H qs W.st ∧ H a6 = some (.tup (W.k.map V.int))
/-- the plays: number and beat -/
def plP (p : List Int) : List (Int × Int) := (List.range p.length).map fun (i : Nat) => (((i : Nat) : Int), p.getD i 0)
def sp_law_by_beats (K : PySem.W.Frag) : Sp := fun vs H Q E => ∃ (B : Pa) (ta l sa pl : Addr) (t : Tk) (R : Nat) (op : Op) (plan : List Int) (ps : List (Int × Int)) (N : Nat),
  vs = [.ref B.p, .ref ta, .ref l, .ref sa, .ref pl] ∧ PlayerAt K H B ta op pk0 ∧ TalkAt K H ta t ∧ TkOk t R ∧ OpOk t op ∧ PlOk t R plan ∧ RdOk ps ∧ RunOk t plan op ps R N ∧
  H l = some (.lst ((opV op).map V.int)) ∧ ¬ l ∈ B.all ∧ SqT K H sa (((List.range N).map fun i => spd ps i).map V.int) ∧ N ≤ 190 ∧ H pl = some (.tup (plan.map V.int)) ∧
  ∀ H' x W, Go B.all H H' → PlayerAt K H' B ta op W → W.s = (wkN t plan op ps N).s → W.nt.length ≤ 2 * N → ToldAt K H' x (wkN t plan op ps N) → Q (.ref x) H'
end
end Rp
end
section
set_option Elab.async false
set_option linter.all false
set_option maxRecDepth 100000
set_option maxHeartbeats 4000000
namespace Rp
open PySem PySem.Spec PyProof.Rows L2
local macro_rules | `(tactic| walk_at "rd1") => `(tactic| with_reducible first
  | refine c_seq ?_ | refine c_asg ?_ | refine c_drop ?_ | refine c_ret ?_ | refine c_ifS ?_ | refine c_brk ?_ | refine c_name ?_
  | refine c_gcons ?_ | refine c_gnil ?_ | refine c_var (by with_unfolding_all rfl) ?_ | refine c_op ?_ | refine c_un ?_ | refine c_c ?_
  | refine c_I0 ?_ | refine c_U ?_ | refine c_ip ?_ | refine c_eqI ?_ | refine c_neI ?_ | refine c_test ?_ | refine c_tB ?_
  | refine c_not ?_ | refine c_and ?_ | refine c_or ?_ | refine c_andV ?_ | refine c_orV ?_ | refine c_notV ?_ | refine c_if ?_
  | refine c_cons ?_ | refine c_nil ?_ | refine c_tupN ?_ | refine c_lstN ?_ | refine c_CB ?_ | refine c_call ?_ | refine c_meth ?_ | refine c_fld ?_ | refine c_sfld ?_ | refine c_gfld ?_
  | refine c_aug (by with_unfolding_all rfl) ?_ | refine c_fldaug ?_ | refine c_sl ?_ | refine c_noPart ?_ | refine c_part ?_ | refine c_callN ?_ | refine c_bm ?_ | refine c_bm0 ?_ | refine c_make ?_ | refine c_makeK ?_ | refine c_asg2 ?_ | refine c_asg3 ?_ | refine c_itT ?_ | refine c_itN ?_ | refine c_itNT ?_ | refine c_itF ?_ | refine c_chain ?_ | refine c_next ?_ | refine ⟨_, (rfl : V.bl _ = V.bl _), ?_⟩ | refine ⟨_, (rfl : V.int _ = V.int _), ?_⟩)
local macro_rules | `(tactic| walk_at "rs1") => `(tactic| with_reducible first
  | refine c_seq ?_ | refine c_asg ?_ | refine c_drop ?_ | refine c_ret ?_ | refine c_brk ?_ | refine c_name ?_
  | refine c_gcons ?_ | refine c_gnil ?_ | refine c_var (by with_unfolding_all rfl) ?_ | refine c_op ?_ | refine c_un ?_ | refine c_c ?_
  | refine c_I0 ?_ | refine c_U ?_ | refine c_ip ?_ | refine c_eqI ?_ | refine c_neI ?_ | refine c_test ?_ | refine c_tB ?_
  | refine c_not ?_ | refine c_and ?_ | refine c_or ?_ | refine c_andV ?_ | refine c_orV ?_ | refine c_notV ?_ | refine c_if ?_
  | refine c_cons ?_ | refine c_nil ?_ | refine c_tupN ?_ | refine c_lstN ?_ | refine c_CB ?_ | refine c_call ?_ | refine c_meth ?_ | refine c_fld ?_ | refine c_sfld ?_ | refine c_gfld ?_
  | refine c_aug (by with_unfolding_all rfl) ?_ | refine c_fldaug ?_ | refine c_sl ?_ | refine c_noPart ?_ | refine c_part ?_ | refine c_callN ?_ | refine c_bm ?_ | refine c_bm0 ?_ | refine c_make ?_ | refine c_makeK ?_ | refine c_asg2 ?_ | refine c_asg3 ?_ | refine c_itT ?_ | refine c_itN ?_ | refine c_itNT ?_ | refine c_itF ?_ | refine c_chain ?_ | refine c_next ?_ | refine ⟨_, (rfl : V.bl _ = V.bl _), ?_⟩ | refine ⟨_, (rfl : V.int _ = V.int _), ?_⟩)
local macro_rules | `(tactic| walk_at "rd") => `(tactic| repeat walk_at "rd1")
local macro_rules | `(tactic| walk_at "rs") => `(tactic| repeat walk_at "rs1")

/-- the six lists of the beats -/
structure Ba where
  a : Addr
  b : Addr
  c : Addr
  d : Addr
  e : Addr
  f : Addr
def Ba.all (X : Ba) : List Addr := [X.a, X.b, X.c, X.d, X.e, X.f]
structure Bk where
  a : List Int
  b : List Int
  c : List Int
  d : List (Int × Int)
  e : List Int
  f : List Int
structure BBAt (K : PySem.W.Frag) (H : Hp) (X : Ba) (W : Bk) : Prop where
  a : H X.a = some (.lst (W.a.map V.int))
  b : H X.b = some (.lst (W.b.map V.int))
  c : H X.c = some (.lst (W.c.map V.int))
  d : ∃ qs : List Addr, H X.d = some (.lst (qs.map V.ref)) ∧ StAt K H qs W.d
  e : H X.e = some (.lst (W.e.map V.int))
  f : H X.f = some (.lst (W.f.map V.int))
  nd : X.all.Nodup
section
variable {K : PySem.W.Frag} {S : List Addr} {H H' : Hp} {X : Ba} {W : Bk} {Q : VK}
theorem BBAt.go (h : BBAt K H X W) (g : Go S H H') (hd : ∀ a ∈ X.all, ¬ a ∈ S) : BBAt K H' X W := by
  obtain ⟨ps, p1, p2⟩ := h.d
  have m : ∀ {i : Nat} {a : Addr}, X.all[i]? = some a → ¬ a ∈ S := fun e => hd _ (List.mem_of_getElem? e)
  exact ⟨g.chg _ _ h.a (m (i := 0) rfl), g.chg _ _ h.b (m (i := 1) rfl), g.chg _ _ h.c (m (i := 2) rfl), ⟨ps, g.chg _ _ p1 (m (i := 3) rfl), p2.go g⟩, g.chg _ _ h.e (m (i := 4) rfl), g.chg _ _ h.f (m (i := 5) rfl), h.nd⟩
theorem BBAt.go0 (h : BBAt K H X W) (g : Go [] H H') : BBAt K H' X W := h.go g fun _ _ => by simp
theorem bb_a {x : Int} (h : BBAt K H X W) (hl : W.a.length < sizeLine) (k : ∀ H', Go X.all H H' → BBAt K H' X { W with a := W.a ++ [x] } → Q .non H') : rAppend (.ref X.a) [.int x] H Q := by
  have g : Go [X.a] H (upd H X.a (.lst (W.a.map V.int ++ [.int x]))) := Go.mut (by simp) h.a rfl
  have ne : ∀ {j : Nat} {a : Addr}, X.all[j]? = some a → j ≠ 0 → a ≠ X.a := fun e n => nd_ne h.nd e (j := 0) rfl n
  obtain ⟨ps, p1, p2⟩ := h.d
  exact c_app h.a (by rw [List.length_map]; exact hl) (k _ (g.mono fun a ha => by rw [List.mem_singleton.mp ha]; exact List.mem_of_getElem? (l := X.all) (i := 0) rfl) ⟨(by rw [List.map_append]; exact upd_same), (by rw [upd_ne (ne (j := 1) rfl (by decide))]; exact h.b), (by rw [upd_ne (ne (j := 2) rfl (by decide))]; exact h.c), ⟨ps, by rw [upd_ne (ne (j := 3) rfl (by decide))]; exact p1, p2.go g⟩, (by rw [upd_ne (ne (j := 4) rfl (by decide))]; exact h.e), (by rw [upd_ne (ne (j := 5) rfl (by decide))]; exact h.f), h.nd⟩)
theorem bb_b {x : Int} (h : BBAt K H X W) (hl : W.b.length < sizeLine) (k : ∀ H', Go X.all H H' → BBAt K H' X { W with b := W.b ++ [x] } → Q .non H') : rAppend (.ref X.b) [.int x] H Q := by
  have g : Go [X.b] H (upd H X.b (.lst (W.b.map V.int ++ [.int x]))) := Go.mut (by simp) h.b rfl
  have ne : ∀ {j : Nat} {a : Addr}, X.all[j]? = some a → j ≠ 1 → a ≠ X.b := fun e n => nd_ne h.nd e (j := 1) rfl n
  obtain ⟨ps, p1, p2⟩ := h.d
  exact c_app h.b (by rw [List.length_map]; exact hl) (k _ (g.mono fun a ha => by rw [List.mem_singleton.mp ha]; exact List.mem_of_getElem? (l := X.all) (i := 1) rfl) ⟨(by rw [upd_ne (ne (j := 0) rfl (by decide))]; exact h.a), (by rw [List.map_append]; exact upd_same), (by rw [upd_ne (ne (j := 2) rfl (by decide))]; exact h.c), ⟨ps, by rw [upd_ne (ne (j := 3) rfl (by decide))]; exact p1, p2.go g⟩, (by rw [upd_ne (ne (j := 4) rfl (by decide))]; exact h.e), (by rw [upd_ne (ne (j := 5) rfl (by decide))]; exact h.f), h.nd⟩)
theorem bb_c {x : Int} (h : BBAt K H X W) (hl : W.c.length < sizeLine) (k : ∀ H', Go X.all H H' → BBAt K H' X { W with c := W.c ++ [x] } → Q .non H') : rAppend (.ref X.c) [.int x] H Q := by
  have g : Go [X.c] H (upd H X.c (.lst (W.c.map V.int ++ [.int x]))) := Go.mut (by simp) h.c rfl
  have ne : ∀ {j : Nat} {a : Addr}, X.all[j]? = some a → j ≠ 2 → a ≠ X.c := fun e n => nd_ne h.nd e (j := 2) rfl n
  obtain ⟨ps, p1, p2⟩ := h.d
  exact c_app h.c (by rw [List.length_map]; exact hl) (k _ (g.mono fun a ha => by rw [List.mem_singleton.mp ha]; exact List.mem_of_getElem? (l := X.all) (i := 2) rfl) ⟨(by rw [upd_ne (ne (j := 0) rfl (by decide))]; exact h.a), (by rw [upd_ne (ne (j := 1) rfl (by decide))]; exact h.b), (by rw [List.map_append]; exact upd_same), ⟨ps, by rw [upd_ne (ne (j := 3) rfl (by decide))]; exact p1, p2.go g⟩, (by rw [upd_ne (ne (j := 4) rfl (by decide))]; exact h.e), (by rw [upd_ne (ne (j := 5) rfl (by decide))]; exact h.f), h.nd⟩)
theorem bb_e {x : Int} (h : BBAt K H X W) (hl : W.e.length < sizeLine) (k : ∀ H', Go X.all H H' → BBAt K H' X { W with e := W.e ++ [x] } → Q .non H') : rAppend (.ref X.e) [.int x] H Q := by
  have g : Go [X.e] H (upd H X.e (.lst (W.e.map V.int ++ [.int x]))) := Go.mut (by simp) h.e rfl
  have ne : ∀ {j : Nat} {a : Addr}, X.all[j]? = some a → j ≠ 4 → a ≠ X.e := fun e n => nd_ne h.nd e (j := 4) rfl n
  obtain ⟨ps, p1, p2⟩ := h.d
  exact c_app h.e (by rw [List.length_map]; exact hl) (k _ (g.mono fun a ha => by rw [List.mem_singleton.mp ha]; exact List.mem_of_getElem? (l := X.all) (i := 4) rfl) ⟨(by rw [upd_ne (ne (j := 0) rfl (by decide))]; exact h.a), (by rw [upd_ne (ne (j := 1) rfl (by decide))]; exact h.b), (by rw [upd_ne (ne (j := 2) rfl (by decide))]; exact h.c), ⟨ps, by rw [upd_ne (ne (j := 3) rfl (by decide))]; exact p1, p2.go g⟩, (by rw [List.map_append]; exact upd_same), (by rw [upd_ne (ne (j := 5) rfl (by decide))]; exact h.f), h.nd⟩)
theorem bb_f {x : Int} (h : BBAt K H X W) (hl : W.f.length < sizeLine) (k : ∀ H', Go X.all H H' → BBAt K H' X { W with f := W.f ++ [x] } → Q .non H') : rAppend (.ref X.f) [.int x] H Q := by
  have g : Go [X.f] H (upd H X.f (.lst (W.f.map V.int ++ [.int x]))) := Go.mut (by simp) h.f rfl
  have ne : ∀ {j : Nat} {a : Addr}, X.all[j]? = some a → j ≠ 5 → a ≠ X.f := fun e n => nd_ne h.nd e (j := 5) rfl n
  obtain ⟨ps, p1, p2⟩ := h.d
  exact c_app h.f (by rw [List.length_map]; exact hl) (k _ (g.mono fun a ha => by rw [List.mem_singleton.mp ha]; exact List.mem_of_getElem? (l := X.all) (i := 5) rfl) ⟨(by rw [upd_ne (ne (j := 0) rfl (by decide))]; exact h.a), (by rw [upd_ne (ne (j := 1) rfl (by decide))]; exact h.b), (by rw [upd_ne (ne (j := 2) rfl (by decide))]; exact h.c), ⟨ps, by rw [upd_ne (ne (j := 3) rfl (by decide))]; exact p1, p2.go g⟩, (by rw [upd_ne (ne (j := 4) rfl (by decide))]; exact h.e), (by rw [List.map_append]; exact upd_same), h.nd⟩)
theorem bb_d {x : Int × Int} {p : Addr} (h : BBAt K H X W) (hp : SqT K H p [.int x.1, .int x.2]) (hl : W.d.length < sizeLine) (k : ∀ H', Go X.all H H' → BBAt K H' X { W with d := W.d ++ [x] } → Q .non H') : rAppend (.ref X.d) [.ref p] H Q := by
  obtain ⟨ps, p1, p2⟩ := h.d
  have g : Go [X.d] H (upd H X.d (.lst (ps.map V.ref ++ [.ref p]))) := Go.mut (by simp) p1 rfl
  have ne : ∀ {j : Nat} {a : Addr}, X.all[j]? = some a → j ≠ 3 → a ≠ X.d := fun e n => nd_ne h.nd e (j := 3) rfl n
  have em : ps.map V.ref ++ [V.ref p] = (ps ++ [p]).map V.ref := by rw [List.map_append]; rfl
  rw [em] at g
  refine c_app p1 (by rw [List.length_map, p2.1]; exact hl) ?_
  rw [em]
  refine k _ (g.mono fun a ha => by rw [List.mem_singleton.mp ha]; exact List.mem_of_getElem? (l := X.all) (i := 3) rfl) ⟨(by rw [upd_ne (ne (j := 0) rfl (by decide))]; exact h.a), (by rw [upd_ne (ne (j := 1) rfl (by decide))]; exact h.b), (by rw [upd_ne (ne (j := 2) rfl (by decide))]; exact h.c), ⟨_, upd_same, ?_⟩, (by rw [upd_ne (ne (j := 4) rfl (by decide))]; exact h.e), (by rw [upd_ne (ne (j := 5) rfl (by decide))]; exact h.f), h.nd⟩
  exact StAt.snoc (p2.go g) (g.tup hp)
end
theorem plP_snoc (p : List Int) (x : Int) : plP (p ++ [x]) = plP p ++ [((p.length : Int), x)] := by
  unfold plP
  rw [List.length_append, List.length_singleton, List.range_succ, List.map_append]
  congr 1
  · refine List.map_congr_left fun i hi => ?_
    have hi := List.mem_range.mp hi
    rw [List.getD_eq_getElem?_getD, List.getD_eq_getElem?_getD, List.getElem?_append_left hi]
  · rw [List.map_singleton, List.getD_eq_getElem?_getD, List.getElem?_append_right (Nat.le_refl _), Nat.sub_self]
    rfl
theorem plP_len (p : List Int) : (plP p).length = p.length := by simp [plP]
theorem plP_snd (p : List Int) : (plP p).map Prod.snd = p := by
  refine List.ext_getElem (by simp [plP]) fun i h1 h2 => ?_
  simp [plP]
  rw [List.getElem?_eq_getElem h2]
  rfl
theorem plP_fst (p : List Int) : (plP p).map Prod.fst = (List.range p.length).map fun (i : Nat) => ((i : Nat) : Int) := by
  simp [plP, Function.comp_def]
theorem chose_na {t : Tk} {R : Nat} {op : Op} {plan : List Int} {W : Wk} (po : PlOk t R plan) : asksB t op.m (wkChoose t plan op W).s = false := by
  unfold wkChoose
  by_cases ha : asksB t op.m W.s = true
  · rw [if_pos ha]
    have := plan_in po (asks_n ha).1
    have hne : ¬ plan.getD W.s.n 0 = -1 := by omega
    show (decide (plan.getD W.s.n 0 = -1) && _) = false
    rw [decide_eq_false hne]
    rfl
  · rw [if_neg ha]
    cases z : asksB t op.m W.s with
    | true => exact absurd z ha
    | false => rfl
theorem chose_same (t : Tk) (plan : List Int) (op : Op) (W : Wk) : (wkChoose t plan op W).f = W.f ∧ (wkChoose t plan op W).p = W.p ∧ (wkChoose t plan op W).k = W.k ∧ (wkChoose t plan op W).b = W.b ∧ (wkChoose t plan op W).s.n = W.s.n ∧ (wkChoose t plan op W).s.p = W.s.p := by
  unfold wkChoose
  split <;> exact ⟨rfl, rfl, rfl, rfl, rfl, rfl⟩
theorem c_lstRg {σ : L2.St} {H : Hp} {Q : VK} {ta : TE} (h : ta σ H fun x H1 => ∃ n, x = .int n ∧ RgOk 0 n ∧ ∀ q, H1 q = none → Q (.ref q) (upd H1 q (.lst (rgV 0 n)))) : tLstRg (tRg1 ta) σ H Q := h
theorem rgV_nat (k : Nat) : rgV 0 (k : Int) = ((List.range k).map fun (i : Nat) => ((i : Nat) : Int)).map V.int := by
  unfold rgV
  rw [Int.sub_zero, Int.toNat_natCast, List.map_map]
  refine List.map_congr_left fun i _ => ?_
  show V.int (0 + (i : Int)) = V.int i
  rw [Int.zero_add]
section
variable {P : Program} {w : World} {K : PySem.W.Frag} {mg : Str → Option Value} {base : Heap}
theorem ok_law_by_beats (T : Txt K mg) : Has P w K mg base (7 + 1) (He.ga K "_law_by_beats") ["_law_player_here", "_law_talk_here", "_law_told", "_law_speeds", "_law_plan"] [] (sp_law_by_beats K) := by
  refine has_of (fd_law_by_beats T) sc_law_by_beats (fun _ _ _ _ _ _ us hl => match us, hl with | [_, _, _, _, _], _ => rfl) (fun vs H Q E h => ?_) fun cdv A outer s H vs Q E hr h => ⟨_, (pss_cons (ps_asg (pe_tup (pa_cons (pe_lst pa_nil) (pa_cons (pe_lst pa_nil) (pa_cons (pe_lst pa_nil) (pa_cons (pe_lst pa_nil) (pa_cons (pe_lst pa_nil) (pa_cons (pe_lst pa_nil) pa_nil))))))) (pg_tup (n := 6) rfl (pgs_cons (pg_name (i := 5) sc_law_by_beats.nd rfl (Or.inl rfl)) (pgs_cons (pg_name (i := 6) sc_law_by_beats.nd rfl (Or.inl rfl)) (pgs_cons (pg_name (i := 7) sc_law_by_beats.nd rfl (Or.inl rfl)) (pgs_cons (pg_name (i := 8) sc_law_by_beats.nd rfl (Or.inl rfl)) (pgs_cons (pg_name (i := 9) sc_law_by_beats.nd rfl (Or.inl rfl)) (pgs_cons (pg_name (i := 10) sc_law_by_beats.nd rfl (Or.inl rfl)) pgs_nil))))))))
      (pss_cons (ps_for PassesOwn.never rfl (pi_enumT (by rfl) (b_enumerate T) (pa_cons (pv 3) pa_nil)) (pg_tup (n := 2) rfl (pgs_cons (pg_name (i := 11) sc_law_by_beats.nd rfl (Or.inl rfl)) (pgs_cons (pg_name (i := 12) sc_law_by_beats.nd rfl (Or.inl rfl)) pgs_nil))) (pss_cons (ps_set (i := 13) sc_law_by_beats.nd rfl (Or.inl rfl) (pe_methH0 (ok_Player_stand_now T) (c_Player T) (m_Player_stand_now T) (hr.mono (by decide)) (pv 0)))
      (pss_cons (ps_if (pt_val (pe_callNH (ok_asks_m T) (hr.mono (by decide)) (by rfl) (g_asks T) (pa_cons (pv 1) (pa_cons (pv 13) pa_nil)) (pk_cons (pe_ix ix_list (pv 2) pe_int (fun _ _ => rfl)) pk_nil))) (pss_cons (ps_if (pt_cmpR op_notN (pe_methH (ok_Player_choose T) (c_Player T) (m_Player_choose T) (hr.mono (by decide)) (pv 0) (pa_cons (pe_ix ix_tup (pv 4) (pe_ix ix_tup (pv 13) pe_int (fun _ _ => rfl)) (fun _ _ => rfl)) pa_nil)) pe_non (nomark _)) (pss_one (ps_ret pe_non)) pss_nil)
      (pss_cons (ps_expr (pe_bm PySem.F.plainAttrs_list PySem.F.slot_list_append PySem.F.type_list_append mt_append (pv 5) (pa_cons (pe_ix ix_tup (pe_methH0 (ok_Player_stand_now T) (c_Player T) (m_Player_stand_now T) (hr.mono (by decide)) (pv 0)) pe_int (fun _ _ => rfl)) pa_nil)))
      (pss_one (ps_expr (pe_bm PySem.F.plainAttrs_list PySem.F.slot_list_append PySem.F.type_list_append mt_append (pv 6) (pa_cons (pv 11) pa_nil)))))) pss_nil)
      (pss_cons (ps_set (i := 14) sc_law_by_beats.nd rfl (Or.inl rfl) (pe_methH (ok_Player_beat T) (c_Player T) (m_Player_beat T) (hr.mono (by decide)) (pv 0) (pa_cons (pv 12) pa_nil)))
      (pss_cons (ps_set (i := 15) sc_law_by_beats.nd rfl (Or.inl rfl) (pe_methH0 (ok_Player_stand_now T) (c_Player T) (m_Player_stand_now T) (hr.mono (by decide)) (pv 0)))
      (pss_cons (ps_if (pt_cmpR op_notN (pv 14) pe_non (nomark _)) (pss_one (ps_expr (pe_bm PySem.F.plainAttrs_list PySem.F.slot_list_append PySem.F.type_list_append mt_append (pv 8) (pa_cons (pe_tup (pa_cons (pv 14) (pa_cons (pv 11) pa_nil))) pa_nil)))) pss_nil)
      (pss_cons (ps_if (pt_cmpR op_gt (pe_ix ix_tup (pv 15) pe_int (fun _ _ => rfl)) (pe_ix ix_tup (pv 13) pe_int (fun _ _ => rfl)) (nomark _)) (pss_one (ps_expr (pe_bm PySem.F.plainAttrs_list PySem.F.slot_list_append PySem.F.type_list_append mt_append (pv 7) (pa_cons (pe_op op_add (pv 11) pe_int) pa_nil)))) pss_nil)
      (pss_cons (ps_if (pt_cmpR op_eq (pe_ix ix_tup (pv 15) pe_int (fun _ _ => rfl)) pe_int (nomark _)) (pss_one (ps_expr (pe_bm PySem.F.plainAttrs_list PySem.F.slot_list_append PySem.F.type_list_append mt_append (pv 9) (pa_cons (pv 11) pa_nil)))) pss_nil)
      (pss_one (ps_expr (pe_bm PySem.F.plainAttrs_list PySem.F.slot_list_append PySem.F.type_list_append mt_append (pv 10) (pa_cons (pe_ix ix_tup (pv 15) pe_int (fun _ _ => rfl)) pa_nil))))))))))))
      (pss_cons (ps_if (pt_cmpR (op_neD hr.units) (pe_lc (own := [("_law_number", 14), ("_law_at", 11)]) (g := gTup K 2 (gCons (gName 14) (gCons (gName 11) gNil))) (tt := tYes) (te := (tVar 14)) rfl sc_law_by_beats.nd (pi_list (pv 8)) (blkOk_by (N := ["_law_player_here", "_law_talk_here", "_law_told", "_law_speeds", "_law_plan", "_law_rates", "_law_started", "_law_done", "_law_plays", "_law_waits", "_law_store", "_law_at", "_law_speed_here", "_law_ahead", "_law_number", "_law_stand"]) (sc := defScope s_law_by_beats) (by decide +kernel)) (fun _ _ _ _ _ => (pg_tup (n := 2) rfl (pgs_cons (pg_name (i := 14) sc_law_by_beats.nd rfl (Or.inl rfl)) (pgs_cons (pg_name (i := 11) sc_law_by_beats.nd rfl (Or.inl rfl)) pgs_nil)))) (fun _ _ _ _ _ => pts_nil) (fun _ _ _ _ _ => (pv 14))) (pe_listRg rfl (by rfl) (b_list T) (prg_1 (by rfl) (b_range T) (pe_callB call_lenR (by rfl) (b_len T) bt_len (pa_cons (pv 8) pa_nil)))) (nomark _)) (pss_one (ps_ret pe_non)) pss_nil)
      (pss_one (ps_ret (pe_lst (pa_cons (pe_callTy call_tupR (by rfl) (b_tuple T) bt_tuple (pa_cons (pv 5) pa_nil)) (pa_cons (pe_callTy call_tupR (by rfl) (b_tuple T) bt_tuple (pa_cons (pv 6) pa_nil)) (pa_cons (pe_callTy call_tupR (by rfl) (b_tuple T) bt_tuple (pa_cons (pv 7) pa_nil)) (pa_cons (pe_callTy call_tupR (by rfl) (b_tuple T) bt_tuple (pa_cons (pe_lc (own := [("_law_number", 14), ("_law_at", 11)]) (g := gTup K 2 (gCons (gName 14) (gCons (gName 11) gNil))) (tt := tYes) (te := (tVar 11)) rfl sc_law_by_beats.nd (pi_list (pv 8)) (blkOk_by (N := ["_law_player_here", "_law_talk_here", "_law_told", "_law_speeds", "_law_plan", "_law_rates", "_law_started", "_law_done", "_law_plays", "_law_waits", "_law_store", "_law_at", "_law_speed_here", "_law_ahead", "_law_number", "_law_stand"]) (sc := defScope s_law_by_beats) (by decide +kernel)) (fun _ _ _ _ _ => (pg_tup (n := 2) rfl (pgs_cons (pg_name (i := 14) sc_law_by_beats.nd rfl (Or.inl rfl)) (pgs_cons (pg_name (i := 11) sc_law_by_beats.nd rfl (Or.inl rfl)) pgs_nil)))) (fun _ _ _ _ _ => pts_nil) (fun _ _ _ _ _ => (pv 11))) pa_nil)) (pa_cons (pe_callH (ok_law_stalls T) (hr.mono (by decide)) (by rfl) (g_law_stalls T) (pa_cons (pv 9) pa_nil)) (pa_cons (pe_callTy call_tupR (by rfl) (b_tuple T) bt_tuple (pa_cons (pv 10) pa_nil)) pa_nil)))))))))))), ?_⟩
  · obtain ⟨B, ta, l, sa, pl, t, R, op, plan, ps, N, rfl, _⟩ := h
    rfl
  obtain ⟨B, ta, l, sa, pl, t, R, op, plan, ps, N, rfl, hp, ht, ok, oo, po, ro, r1, hl, nl, hsa, hN, hpl, hq⟩ := h
  have inv := wkN_inv (t := t) ok oo po ro
  walk_at "rd"
  refine newLst fun la Ha ga fa ha => ?_
  have g := ga
  have qa : H la = none := fa
  have gpb := g
  walk_at "rd"
  refine newLst fun lb Hb gb fb hb => ?_
  have mba : lb ≠ la := fun z => by
    rw [z, ha] at fb
    cases fb
  replace ha := gb.chg _ _ ha (by simp)
  replace g := g.trans' gb
  have qb : H lb = none := gpb.free fb (by simp)
  have gpc := g
  walk_at "rd"
  refine newLst fun lc Hc gc fc hc => ?_
  have mca : lc ≠ la := fun z => by
    rw [z, ha] at fc
    cases fc
  replace ha := gc.chg _ _ ha (by simp)
  have mcb : lc ≠ lb := fun z => by
    rw [z, hb] at fc
    cases fc
  replace hb := gc.chg _ _ hb (by simp)
  replace g := g.trans' gc
  have qc : H lc = none := gpc.free fc (by simp)
  have gpd := g
  walk_at "rd"
  refine newLst fun ld Hd gd fd hd => ?_
  have mda : ld ≠ la := fun z => by
    rw [z, ha] at fd
    cases fd
  replace ha := gd.chg _ _ ha (by simp)
  have mdb : ld ≠ lb := fun z => by
    rw [z, hb] at fd
    cases fd
  replace hb := gd.chg _ _ hb (by simp)
  have mdc : ld ≠ lc := fun z => by
    rw [z, hc] at fd
    cases fd
  replace hc := gd.chg _ _ hc (by simp)
  replace g := g.trans' gd
  have qd : H ld = none := gpd.free fd (by simp)
  have gpe := g
  walk_at "rd"
  refine newLst fun le He ge fe he => ?_
  have mea : le ≠ la := fun z => by
    rw [z, ha] at fe
    cases fe
  replace ha := ge.chg _ _ ha (by simp)
  have meb : le ≠ lb := fun z => by
    rw [z, hb] at fe
    cases fe
  replace hb := ge.chg _ _ hb (by simp)
  have mec : le ≠ lc := fun z => by
    rw [z, hc] at fe
    cases fe
  replace hc := ge.chg _ _ hc (by simp)
  have med : le ≠ ld := fun z => by
    rw [z, hd] at fe
    cases fe
  replace hd := ge.chg _ _ hd (by simp)
  replace g := g.trans' ge
  have qe : H le = none := gpe.free fe (by simp)
  have gpf := g
  walk_at "rd"
  refine newLst fun lf Hf gf ff hf => ?_
  have mfa : lf ≠ la := fun z => by
    rw [z, ha] at ff
    cases ff
  replace ha := gf.chg _ _ ha (by simp)
  have mfb : lf ≠ lb := fun z => by
    rw [z, hb] at ff
    cases ff
  replace hb := gf.chg _ _ hb (by simp)
  have mfc : lf ≠ lc := fun z => by
    rw [z, hc] at ff
    cases ff
  replace hc := gf.chg _ _ hc (by simp)
  have mfd : lf ≠ ld := fun z => by
    rw [z, hd] at ff
    cases ff
  replace hd := gf.chg _ _ hd (by simp)
  have mfe : lf ≠ le := fun z => by
    rw [z, he] at ff
    cases ff
  replace he := gf.chg _ _ he (by simp)
  replace g := g.trans' gf
  have qf : H lf = none := gpf.free ff (by simp)
  walk_at "rd"
  refine newTup fun tt Ht gt _ htt => ?_
  have bb : BBAt K Ht ⟨la, lb, lc, ld, le, lf⟩ ⟨[], [], [], [], [], []⟩ := by
    refine ⟨gt.chg _ _ ha (by simp), gt.chg _ _ hb (by simp), gt.chg _ _ hc (by simp), ⟨[], gt.chg _ _ hd (by simp), rfl, fun i p q e _ => by simp at e⟩, gt.chg _ _ he (by simp), gt.chg _ _ hf (by simp), ?_⟩
    simp only [Ba.all, List.nodup_cons, List.mem_cons, List.not_mem_nil, or_false, not_or, not_false_eq_true, List.nodup_nil, and_true]
    exact ⟨⟨mba.symm, mca.symm, mda.symm, mea.symm, mfa.symm⟩, ⟨mcb.symm, mdb.symm, meb.symm, mfb.symm⟩, ⟨mdc.symm, mec.symm, mfc.symm⟩, ⟨med.symm, mfd.symm⟩, mfe.symm⟩
  replace g := g.trans' gt
  clear ha hb hc hd he hf ga gb gc gd ge gf gt gpb gpc gpd gpe gpf
  clear mba mca mda mea mfa mcb mdb meb mfb mdc mec mfc med mfd mfe
  have fr : ∀ a ∈ (⟨la, lb, lc, ld, le, lf⟩ : Ba).all, H a = none := fun a ha => by
    simp only [Ba.all, List.mem_cons, List.not_mem_nil, or_false] at ha
    rcases ha with rfl | rfl | rfl | rfl | rfl | rfl <;> assumption
  generalize hX : (⟨la, lb, lc, ld, le, lf⟩ : Ba) = X at bb fr
  have ea : la = X.a := by rw [← hX]
  have eb : lb = X.b := by rw [← hX]
  have ec : lc = X.c := by rw [← hX]
  have ed : ld = X.d := by rw [← hX]
  have ee : le = X.e := by rw [← hX]
  have ef : lf = X.f := by rw [← hX]
  clear hX
  subst ea eb ec ed ee ef
  refine c_tupG (sqT htt) rfl ?_
  walk_at "rd"
  have hxb : ∀ a ∈ X.all, ¬ a ∈ B.all := fun a ha hb => by
    have z := fr a ha
    obtain ⟨dx, lo, st, e1, _⟩ := hp.ob
    obtain ⟨qs, e2, _⟩ := hp.nt
    simp only [Pa.all, List.mem_cons, List.not_mem_nil, or_false] at hb
    rcases hb with rfl | rfl
    · rw [e1] at z; cases z
    · rw [e2] at z; cases z
  have hbx : ∀ a ∈ B.all, ¬ a ∈ X.all := fun a ha hb => hxb a hb ha
  have gB := g.mono (S' := B.all) fun a ha => by cases ha
  refine ⟨.ref sa, by with_unfolding_all rfl, sa, _, rfl, g.tup hsa, ?_⟩
  refine L2.for_it walk_enumT (fun i σ' H' => ∃ W, Go B.all H H' ∧ PlayerAt K H' B ta op W ∧ W.s = (wkN t plan op ps i).s ∧ W.nt.length ≤ 2 * i ∧ BBAt K H' X ⟨(wkN t plan op ps i).r, (wkN t plan op ps i).g, (wkN t plan op ps i).f, plP (wkN t plan op ps i).p, wts t plan op ps i, (wkN t plan op ps i).k⟩ ∧
      σ'[0]? = some (some (.ref B.p)) ∧ σ'[1]? = some (some (.ref ta)) ∧ σ'[2]? = some (some (.ref l)) ∧ σ'[4]? = some (some (.ref pl)) ∧ σ'[5]? = some (some (.ref X.a)) ∧ σ'[6]? = some (some (.ref X.b)) ∧ σ'[7]? = some (some (.ref X.c)) ∧ σ'[8]? = some (some (.ref X.d)) ∧ σ'[9]? = some (some (.ref X.e)) ∧ σ'[10]? = some (some (.ref X.f)) ∧ σ'.length = 16)
    ⟨pk0, gB, hp.go0 g, rfl, Nat.le_refl _, bb, rfl, rfl, rfl, rfl, rfl, rfl, rfl, rfl, rfl, rfl, rfl⟩ (fun i σ' H' _ z => by
      obtain ⟨W, g, _⟩ := z
      exact g.tup hsa) (fun i x σ' H' H2 hi z y => ?_) fun σ' H' z => ?_
  · clear g gB bb htt
    obtain ⟨W, g, hp, hs, hnt, bb, s0, s1, s2, s4, s5, s6, s7, s8, s9, s10, sl⟩ := z
    obtain ⟨Tp, x1, x2, rfl, e1, rfl, e3, e4⟩ := y
    have hi' : i < N := by simpa using hi
    cases e3
    have e5 : x2 = .int (spd ps i) := by
      simp only [List.getElem?_map, List.getElem?_range hi', Option.map_some] at e4
      exact (Option.some.inj e4).symm
    subst e5
    have gn := Go.new (S := []) (o := HO.tup [V.int (i : Nat), V.int (spd ps i)]) e1
    refine c_tupG (sqT upd_same) rfl ?_
    replace g := g.trans0 gn
    replace hp := hp.go0 gn
    replace bb := bb.go0 gn
    generalize upd H' Tp (HO.tup [V.int (i : Nat), V.int (spd ps i)]) = H3 at g hp bb ⊢
    clear gn e1
    match σ', s0, s1, s2, s4, s5, s6, s7, s8, s9, s10, sl with
    | [c0, c1, c2, c3, c4, c5, c6, c7, c8, c9, c10, c11, c12, c13, c14, c15], s0, s1, s2, s4, s5, s6, s7, s8, s9, s10, _ =>
    cases s0
    cases s1
    cases s2
    cases s4
    cases s5
    cases s6
    cases s7
    cases s8
    cases s9
    cases s10
    have hne : (wkN t plan op ps i).s.p ≠ t.ls.sum := r1.go i hi'
    have i0 := inv i
    have i1 := i0.choose ok oo po
    have hWc : (wkChoose t plan op (wkN t plan op ps i)).s = chS t op plan (wkN t plan op ps i).s := wkChoose_s _
    walk_at "rd"
    refine rp_meth hp rfl ?_
    walk_at "rd"
    refine ⟨B, ta, op, W, rfl, hp, fun sa1 hsa1 => ?_⟩
    rw [hs] at hsa1
    walk_at "rs1"
    with_reducible refine c_seqC (fun σ' H' => ∃ W2, Go B.all H H' ∧ PlayerAt K H' B ta op W2 ∧ W2.s = (wkChoose t plan op (wkN t plan op ps i)).s ∧ W2.nt.length ≤ 2 * i + 1 ∧ SqT K H' sa1 (sdV (wkN t plan op ps i).s) ∧
        BBAt K H' X ⟨(wkChoose t plan op (wkN t plan op ps i)).r, (wkChoose t plan op (wkN t plan op ps i)).g, (wkN t plan op ps i).f, plP (wkN t plan op ps i).p, wts t plan op ps i, (wkN t plan op ps i).k⟩ ∧
        σ'[0]? = some (some (.ref B.p)) ∧ σ'[1]? = some (some (.ref ta)) ∧ σ'[2]? = some (some (.ref l)) ∧ σ'[4]? = some (some (.ref pl)) ∧ σ'[5]? = some (some (.ref X.a)) ∧ σ'[6]? = some (some (.ref X.b)) ∧ σ'[7]? = some (some (.ref X.c)) ∧ σ'[8]? = some (some (.ref X.d)) ∧ σ'[9]? = some (some (.ref X.e)) ∧ σ'[10]? = some (some (.ref X.f)) ∧ σ'[11]? = some (some (.int (i : Nat))) ∧ σ'[12]? = some (some (.int (spd ps i))) ∧ σ'[13]? = some (some (.ref sa1)) ∧ σ'.length = 16) (fun σ' H4 zz => ?_) fun N1 hN1 => ?_
    · clear hp hs hnt bb g hsa1
      obtain ⟨W2, g, hp, hs, hnt, hsa1, bb, s0, s1, s2, s4, s5, s6, s7, s8, s9, s10, s11, s12, s13, sl⟩ := zz
      match σ', s0, s1, s2, s4, s5, s6, s7, s8, s9, s10, s11, s12, s13, sl with
      | [c0, c1, c2, c3, c4, c5, c6, c7, c8, c9, c10, c11, c12, c13, c14, c15], s0, s1, s2, s4, s5, s6, s7, s8, s9, s10, s11, s12, s13, _ =>
      cases s0
      cases s1
      cases s2
      cases s4
      cases s5
      cases s6
      cases s7
      cases s8
      cases s9
      cases s10
      cases s11
      cases s12
      cases s13
      obtain ⟨cf, cp, ck, cb, cn, cpp⟩ := chose_same t plan op (wkN t plan op ps i)
      walk_at "rd"
      refine rp_meth hp rfl ?_
      walk_at "rd"
      refine ⟨B, ta, op, W2, t, R, spd ps i, rfl, hp, ht.go g, ok, by rw [hs]; exact i1.s, spd_nn ro i, oo.m, by rw [hs]; exact chose_na po, by rw [hs, cpp]; exact hne, Nat.lt_of_le_of_lt (show W2.nt.length ≤ 1000 by omega) (by decide), fun H5 W5 g5 hp k1 k2 k3 => ?_⟩
      replace bb := bb.go g5 hxb
      replace g := g.trans' g5
      replace hsa1 := g5.tup hsa1
      have e9 : W5.s = (wkN t plan op ps (i + 1)).s := by rw [k1, hs]; rfl
      have hnt5 : W5.nt.length ≤ 2 * (i + 1) := by
        rw [k3, List.length_append]
        show W2.nt.length + 1 ≤ _
        omega
      have er : (wkChoose t plan op (wkN t plan op ps i)).r = (wkN t plan op ps (i + 1)).r := rfl
      have eg : (wkChoose t plan op (wkN t plan op ps i)).g = (wkN t plan op ps (i + 1)).g := rfl
      rw [er, eg] at bb
      have i2 := inv (i + 1)
      have hP : W2.s.p = ((wkN t plan op ps i).p.length : Int) := by rw [hs, cpp, i0.pl]
      have ef : (wkN t plan op ps (i + 1)).f = if (wkN t plan op ps i).s.n < (wkN t plan op ps (i + 1)).s.n then (wkN t plan op ps i).f ++ [(i : Int) + 1] else (wkN t plan op ps i).f := by
        rw [← cn, ← cf, ← wkN_b (t := t) (plan := plan) (op := op) (ps := ps) i, ← cb]
        rfl
      have ep : (wkN t plan op ps (i + 1)).p = if W2.s.p < W5.s.p then (wkN t plan op ps i).p ++ [(i : Int)] else (wkN t plan op ps i).p := by
        rw [hs, e9, ← cp, ← wkN_b (t := t) (plan := plan) (op := op) (ps := ps) i, ← cb]
        rfl
      have ek : (wkN t plan op ps (i + 1)).k = (wkN t plan op ps i).k ++ [(wkN t plan op ps (i + 1)).s.k] := by
        rw [← ck]
        rfl
      have ew : wts t plan op ps (i + 1) = if (wkN t plan op ps (i + 1)).s.o = 2 then wts t plan op ps i ++ [(i : Int)] else wts t plan op ps i := rfl
      have bnd := (i0.wkOk ok oo po (by omega)).rl
      have bnk := (i0.wkOk ok oo po (by omega)).kl
      generalize hnv : (if W2.s.p < W5.s.p then V.int W2.s.p else V.non) = nv
      walk_at "rd"
      refine rp_meth hp rfl ?_
      walk_at "rd"
      refine ⟨B, ta, op, W5, rfl, hp, fun sb hsb => ?_⟩
      rw [e9] at hsb
      walk_at "rs1"
      with_reducible refine c_seqC (fun σ' H' => Go B.all H H' ∧ PlayerAt K H' B ta op W5 ∧ SqT K H' sa1 (sdV (wkN t plan op ps i).s) ∧ SqT K H' sb (sdV (wkN t plan op ps (i + 1)).s) ∧ BBAt K H' X ⟨(wkN t plan op ps (i + 1)).r, (wkN t plan op ps (i + 1)).g, (wkN t plan op ps i).f, plP (wkN t plan op ps (i + 1)).p, wts t plan op ps i, (wkN t plan op ps i).k⟩ ∧ σ'[0]? = some (some (.ref B.p)) ∧ σ'[1]? = some (some (.ref ta)) ∧ σ'[2]? = some (some (.ref l)) ∧ σ'[4]? = some (some (.ref pl)) ∧ σ'[5]? = some (some (.ref X.a)) ∧ σ'[6]? = some (some (.ref X.b)) ∧ σ'[7]? = some (some (.ref X.c)) ∧ σ'[8]? = some (some (.ref X.d)) ∧ σ'[9]? = some (some (.ref X.e)) ∧ σ'[10]? = some (some (.ref X.f)) ∧ σ'[11]? = some (some (.int (i : Nat))) ∧ σ'[13]? = some (some (.ref sa1)) ∧ σ'[15]? = some (some (.ref sb)) ∧ σ'.length = 16) (fun σ' H6 zz => ?_) fun N2 hN2 => ?_
      · clear bb hp g hsa1 hsb g5
        obtain ⟨g, hp, hsa1, hsb, bb, s0, s1, s2, s4, s5, s6, s7, s8, s9, s10, s11, s13, s15, sl⟩ := zz
        match σ', s0, s1, s2, s4, s5, s6, s7, s8, s9, s10, s11, s13, s15, sl with
        | [c0, c1, c2, c3, c4, c5, c6, c7, c8, c9, c10, c11, c12, c13, c14, c15], s0, s1, s2, s4, s5, s6, s7, s8, s9, s10, s11, s13, s15, _ =>
        cases s0
        cases s1
        cases s2
        cases s4
        cases s5
        cases s6
        cases s7
        cases s8
        cases s9
        cases s10
        cases s11
        cases s13
        cases s15
        with_reducible refine c_seqC (fun σ' H' => Go B.all H H' ∧ PlayerAt K H' B ta op W5 ∧ SqT K H' sa1 (sdV (wkN t plan op ps i).s) ∧ SqT K H' sb (sdV (wkN t plan op ps (i + 1)).s) ∧ BBAt K H' X ⟨(wkN t plan op ps (i + 1)).r, (wkN t plan op ps (i + 1)).g, (wkN t plan op ps (i + 1)).f, plP (wkN t plan op ps (i + 1)).p, wts t plan op ps i, (wkN t plan op ps i).k⟩ ∧ σ'[0]? = some (some (.ref B.p)) ∧ σ'[1]? = some (some (.ref ta)) ∧ σ'[2]? = some (some (.ref l)) ∧ σ'[4]? = some (some (.ref pl)) ∧ σ'[5]? = some (some (.ref X.a)) ∧ σ'[6]? = some (some (.ref X.b)) ∧ σ'[7]? = some (some (.ref X.c)) ∧ σ'[8]? = some (some (.ref X.d)) ∧ σ'[9]? = some (some (.ref X.e)) ∧ σ'[10]? = some (some (.ref X.f)) ∧ σ'[11]? = some (some (.int (i : Nat))) ∧ σ'[13]? = some (some (.ref sa1)) ∧ σ'[15]? = some (some (.ref sb)) ∧ σ'.length = 16) (fun σ' H6 zz => ?_) fun N2 hN2 => ?_
        · clear bb hp g hsa1 hsb
          obtain ⟨g, hp, hsa1, hsb, bb, s0, s1, s2, s4, s5, s6, s7, s8, s9, s10, s11, s13, s15, sl⟩ := zz
          match σ', s0, s1, s2, s4, s5, s6, s7, s8, s9, s10, s11, s13, s15, sl with
          | [c0, c1, c2, c3, c4, c5, c6, c7, c8, c9, c10, c11, c12, c13, c14, c15], s0, s1, s2, s4, s5, s6, s7, s8, s9, s10, s11, s13, s15, _ =>
          cases s0
          cases s1
          cases s2
          cases s4
          cases s5
          cases s6
          cases s7
          cases s8
          cases s9
          cases s10
          cases s11
          cases s13
          cases s15
          with_reducible refine c_seqC (fun σ' H' => Go B.all H H' ∧ PlayerAt K H' B ta op W5 ∧ SqT K H' sa1 (sdV (wkN t plan op ps i).s) ∧ SqT K H' sb (sdV (wkN t plan op ps (i + 1)).s) ∧ BBAt K H' X ⟨(wkN t plan op ps (i + 1)).r, (wkN t plan op ps (i + 1)).g, (wkN t plan op ps (i + 1)).f, plP (wkN t plan op ps (i + 1)).p, wts t plan op ps (i + 1), (wkN t plan op ps i).k⟩ ∧ σ'[0]? = some (some (.ref B.p)) ∧ σ'[1]? = some (some (.ref ta)) ∧ σ'[2]? = some (some (.ref l)) ∧ σ'[4]? = some (some (.ref pl)) ∧ σ'[5]? = some (some (.ref X.a)) ∧ σ'[6]? = some (some (.ref X.b)) ∧ σ'[7]? = some (some (.ref X.c)) ∧ σ'[8]? = some (some (.ref X.d)) ∧ σ'[9]? = some (some (.ref X.e)) ∧ σ'[10]? = some (some (.ref X.f)) ∧ σ'[11]? = some (some (.int (i : Nat))) ∧ σ'[13]? = some (some (.ref sa1)) ∧ σ'[15]? = some (some (.ref sb)) ∧ σ'.length = 16) (fun σ' H6 zz => ?_) fun N2 hN2 => ?_
          · clear bb hp g hsa1 hsb
            obtain ⟨g, hp, hsa1, hsb, bb, s0, s1, s2, s4, s5, s6, s7, s8, s9, s10, s11, s13, s15, sl⟩ := zz
            match σ', s0, s1, s2, s4, s5, s6, s7, s8, s9, s10, s11, s13, s15, sl with
            | [c0, c1, c2, c3, c4, c5, c6, c7, c8, c9, c10, c11, c12, c13, c14, c15], s0, s1, s2, s4, s5, s6, s7, s8, s9, s10, s11, s13, s15, _ =>
            cases s0
            cases s1
            cases s2
            cases s4
            cases s5
            cases s6
            cases s7
            cases s8
            cases s9
            cases s10
            cases s11
            cases s13
            cases s15
            walk_at "rd"
            refine bmL bb.f ?_
            walk_at "rd"
            refine c_ixT hsb (i := 3) rfl ?_
            walk_at "rd"
            refine bb_f bb (Nat.lt_of_le_of_lt bnk.2 (by decide)) fun H7 g7 bb => ?_
            refine ⟨W5, g.trans g7 fun a ha => .inr (fr a ha), hp.go g7 hbx, e9, hnt5, ?_, rfl, rfl, rfl, rfl, rfl, rfl, rfl, rfl, rfl, rfl, rfl⟩
            rw [ek]
            exact bb
          · walk_at "rd"
            refine c_ixT hsb (i := 5) rfl ?_
            walk_at "rd"
            refine ifd (fun h => ?_) fun h => ?_
            · rw [ew, if_pos h] at hN2
              walk_at "rd"
              refine bmL bb.e ?_
              walk_at "rd"
              refine bb_e bb (Nat.lt_of_le_of_lt (Nat.le_trans (wts_len i) (show i ≤ 1000 by omega)) (by decide)) fun H7 g7 bb => ?_
              exact hN2 _ _ ⟨g.trans g7 fun a ha => .inr (fr a ha), hp.go g7 hbx, g7.tup hsa1, g7.tup hsb, bb, rfl, rfl, rfl, rfl, rfl, rfl, rfl, rfl, rfl, rfl, rfl, rfl, rfl, rfl⟩
            · rw [ew, if_neg h] at hN2
              walk_at "rd"
              exact hN2 _ _ ⟨g, hp, hsa1, hsb, bb, rfl, rfl, rfl, rfl, rfl, rfl, rfl, rfl, rfl, rfl, rfl, rfl, rfl, rfl⟩
        · walk_at "rd"
          refine c_ixT hsb (i := 0) rfl ?_
          walk_at "rd"
          refine c_ixT hsa1 (i := 0) rfl ?_
          walk_at "rd"
          refine ifd (fun h => ?_) fun h => ?_
          · have h : (wkN t plan op ps i).s.n < (wkN t plan op ps (i + 1)).s.n := by
              have z : (((wkN t plan op ps i).s.n : Nat) : Int) < (((wkN t plan op ps (i + 1)).s.n : Nat) : Int) := h
              omega
            rw [ef, if_pos h] at hN2
            walk_at "rd"
            refine bmL bb.c ?_
            walk_at "rd"
            refine bb_c bb (Nat.lt_of_le_of_lt bnd.2.2.1 (by decide)) fun H7 g7 bb => ?_
            exact hN2 _ _ ⟨g.trans g7 fun a ha => .inr (fr a ha), hp.go g7 hbx, g7.tup hsa1, g7.tup hsb, bb, rfl, rfl, rfl, rfl, rfl, rfl, rfl, rfl, rfl, rfl, rfl, rfl, rfl, rfl⟩
          · have h : ¬ (wkN t plan op ps i).s.n < (wkN t plan op ps (i + 1)).s.n := fun z => h (by
              show (((wkN t plan op ps i).s.n : Nat) : Int) < (((wkN t plan op ps (i + 1)).s.n : Nat) : Int)
              omega)
            rw [ef, if_neg h] at hN2
            walk_at "rd"
            exact hN2 _ _ ⟨g, hp, hsa1, hsb, bb, rfl, rfl, rfl, rfl, rfl, rfl, rfl, rfl, rfl, rfl, rfl, rfl, rfl, rfl⟩
      · walk_at "rd"
        refine ⟨rfl, ?_⟩
        by_cases hq5 : W2.s.p < W5.s.p
        · rw [if_pos hq5] at hnv
          subst hnv
          rw [ep, if_pos hq5, plP_snoc] at hN2
          rw [decide_eq_false (fun z => by cases z)]
          walk_at "rd"
          refine bmL bb.d.choose_spec.1 ?_
          walk_at "rd"
          refine newTup fun tq H7 g7 _ htq => ?_
          replace bb := bb.go0 g7
          replace g := g.trans0 g7
          replace hp := hp.go0 g7
          replace hsa1 := g7.tup hsa1
          replace hsb := g7.tup hsb
          walk_at "rd"
          rw [hP] at htq
          refine bb_d bb (x := (((wkN t plan op ps i).p.length : Int), (i : Int))) (sqT htq) (by rw [plP_len]; exact Nat.lt_of_le_of_lt bnd.2.2.2 (by decide)) fun H8 g8 bb => ?_
          exact hN2 _ _ ⟨g.trans g8 fun a ha => .inr (fr a ha), hp.go g8 hbx, g8.tup hsa1, g8.tup hsb, bb, rfl, rfl, rfl, rfl, rfl, rfl, rfl, rfl, rfl, rfl, rfl, rfl, rfl, rfl⟩
        · rw [if_neg hq5] at hnv
          subst hnv
          rw [ep, if_neg hq5] at hN2
          rw [decide_eq_true rfl]
          walk_at "rd"
          exact hN2 _ _ ⟨g, hp, hsa1, hsb, bb, rfl, rfl, rfl, rfl, rfl, rfl, rfl, rfl, rfl, rfl, rfl, rfl, rfl, rfl⟩
    · walk_at "rd"
      refine c_ixL (sqL (g.chg _ _ hl nl)) (atI_nat (j := 2) rfl) ?_
      walk_at "rd"
      refine ⟨rfl, rfl, ta, sa1, t, _, op.m, rfl, ht.go g, hsa1, oo.m, fun H4 g4 => ?_⟩
      replace hp := hp.go0 g4
      replace bb := bb.go0 g4
      replace g := g.trans0 g4
      replace hsa1 := g4.tup hsa1
      walk_at "rd"
      refine ifb (fun ha => ?_) fun ha => ?_
      · obtain ⟨hn, hc, _⟩ := asks_n ha
        have eW : wkChoose t plan op (wkN t plan op ps i) = { wkN t plan op ps i with s := chosenS op.w (wkN t plan op ps i).s (plan.getD (wkN t plan op ps i).s.n 0), rl := .int (plan.getD (wkN t plan op ps i).s.n 0), r := (wkN t plan op ps i).r ++ [plan.getD (wkN t plan op ps i).s.n 0], g := (wkN t plan op ps i).g ++ [(wkN t plan op ps i).b] } := by
          unfold wkChoose
          rw [if_pos ha]
        rw [eW] at hN1
        walk_at "rd"
        refine rp_meth hp rfl ?_
        walk_at "rd"
        refine c_ixT hsa1 (i := 0) rfl ?_
        refine c_ixT (sqT (g.fix _ _ hpl rfl)) (atI_map (by rw [po.len]; exact hn)) ?_
        walk_at "rd"
        refine ⟨B, ta, op, W, t, R, _, rfl, hp, ht.go g, ok, oo.m, by rw [hs]; exact ha, plan_in po hn, Nat.lt_of_le_of_lt (show W.nt.length ≤ 1000 by omega) (by decide), fun H5 W5 g5 hp k1 k2 k3 => ?_⟩
        replace bb := bb.go g5 hxb
        replace g := g.trans' g5
        replace hsa1 := g5.tup hsa1
        walk_at "rd"
        refine ⟨rfl, ?_⟩
        rw [decide_eq_true rfl]
        walk_at "rd"
        refine bmL bb.a ?_
        walk_at "rd"
        refine rp_meth hp rfl ?_
        walk_at "rd"
        refine ⟨B, ta, op, W5, rfl, hp, fun sa2 hsa2 => ?_⟩
        rw [k1, hs] at hsa2
        walk_at "rd"
        refine c_ixT hsa2 (i := 1) rfl ?_
        walk_at "rd"
        have hrl : (wkN t plan op ps i).r.length ≤ 100 := (i0.wkOk ok oo po (by omega)).rl.1
        have hgl : (wkN t plan op ps i).g.length ≤ 100 := (i0.wkOk ok oo po (by omega)).rl.2.1
        refine bb_a bb (Nat.lt_of_le_of_lt hrl (by decide)) fun H6 g6 bb => ?_
        replace hp := hp.go g6 hbx
        replace g := g.trans g6 fun a ha => .inr (fr a ha)
        replace hsa1 := g6.tup hsa1
        walk_at "rd"
        refine bmL bb.b ?_
        walk_at "rd"
        refine bb_b bb (Nat.lt_of_le_of_lt hgl (by decide)) fun H7 g7 bb => ?_
        replace hp := hp.go g7 hbx
        replace g := g.trans g7 fun a ha => .inr (fr a ha)
        replace hsa1 := g7.tup hsa1
        refine hN1 _ _ ⟨W5, g, hp, by rw [k1, hs], by rw [k3, List.length_append]; show W.nt.length + 1 ≤ _; omega, hsa1, ?_, rfl, rfl, rfl, rfl, rfl, rfl, rfl, rfl, rfl, rfl, rfl, rfl, rfl, rfl⟩
        show BBAt K H7 X ⟨_, (wkN t plan op ps i).g ++ [(wkN t plan op ps i).b], _, _, _, _⟩
        rw [wkN_b]
        exact bb
      · have eW : wkChoose t plan op (wkN t plan op ps i) = wkN t plan op ps i := by
          unfold wkChoose
          rw [if_neg (by rw [ha]; exact Bool.false_ne_true)]
        rw [eW] at hN1
        walk_at "rd"
        exact hN1 _ _ ⟨W, g, hp, hs, by omega, hsa1, bb, rfl, rfl, rfl, rfl, rfl, rfl, rfl, rfl, rfl, rfl, rfl, rfl, rfl, rfl⟩
  · clear g gB bb htt
    obtain ⟨W, g, hp, hs, hnt, bb, s0, s1, s2, s4, s5, s6, s7, s8, s9, s10, sl⟩ := z
    have elen : (List.map V.int (List.map (fun i => spd ps i) (List.range N))).length = N := by simp
    rw [elen] at hs hnt bb
    have bnd := ((inv N).wkOk ok oo po (by omega)).rl
    match σ', s0, s1, s2, s4, s5, s6, s7, s8, s9, s10, sl with
    | [c0, c1, c2, c3, c4, c5, c6, c7, c8, c9, c10, c11, c12, c13, c14, c15], s0, s1, s2, s4, s5, s6, s7, s8, s9, s10, _ =>
    cases s0
    cases s1
    cases s2
    cases s4
    cases s5
    cases s6
    cases s7
    cases s8
    cases s9
    cases s10
    obtain ⟨qs, hd1, hd2⟩ := bb.d
    walk_at "rd"
    refine c_lcL ?_
    walk_at "rd"
    refine lcL (sqL hd1) (fun D i ys Hc => Go [] H' Hc ∧ ys = (((plP (wkN t plan op ps N).p).map Prod.fst).take i).map V.int) (fun D hD => ⟨Go.new hD, rfl⟩) (fun D i ys Hc hD r => sqL (r.1.chg _ _ hd1 (by simp))) (fun D i ys x Hc hD hi hx hl hDl r => ?_) fun D ys Hc hD hDl hl r => ?_
    · obtain ⟨g6, rfl⟩ := r
      have hi1 : i < qs.length := by simpa using hi
      have hi2 : i < (plP (wkN t plan op ps N).p).length := by rw [← hd2.1]; exact hi1
      have ex : x = .ref qs[i] := by
        rw [List.getElem?_map, List.getElem?_eq_getElem hi1] at hx
        exact (Option.some.inj hx).symm
      subst ex
      refine c_tupG (g6.tup (hd2.2 i _ _ (List.getElem?_eq_getElem hi1) (List.getElem?_eq_getElem hi2))) rfl ?_
      walk_at "rd"
      refine ⟨rfl, ?_⟩
      walk_at "rd"
      refine lcEnd hDl hl (Nat.lt_of_lt_of_le hi2 (by rw [plP_len]; exact Nat.le_trans bnd.2.2.2 (by decide))) ⟨g6.updF hD, ?_⟩
      rw [List.take_add_one, List.getElem?_map, List.getElem?_eq_getElem hi2, List.map_append]
      rfl
    obtain ⟨g6, rfl⟩ := r
    rw [List.length_map, hd2.1, List.take_of_length_le (by simp)] at hDl
    have hd3 := g6.chg _ _ hd1 (by simp)
    walk_at "rd"
    refine c_lstRg ?_
    walk_at "rd"
    refine ⟨X.d, _, rfl, .inl (sqL hd3), ?_⟩
    walk_at "rd"
    have ql : qs.length = (wkN t plan op ps N).p.length := by rw [hd2.1, plP_len]
    have bp := bnd.2.2.2
    refine ⟨RgOk.of_le (by omega) (by rw [List.length_map, ql]; omega) (by omega) (by omega), fun q1 hq1 => ?_⟩
    rw [List.length_map, ql, rgV_nat, ← plP_fst]
    have g7 := Go.new (S := []) (o := HO.lst (((plP (wkN t plan op ps N).p).map Prod.fst).map V.int)) hq1
    refine neLL (ns := (plP (wkN t plan op ps N).p).map Prod.fst) (ms := (plP (wkN t plan op ps N).p).map Prod.fst) (g7.chg _ _ hDl (by simp)) upd_same ?_
    rw [decide_eq_true rfl]
    have g8 := g6.trans' g7
    generalize upd Hc q1 (HO.lst (((plP (wkN t plan op ps N).p).map Prod.fst).map V.int)) = J1 at g8 ⊢
    clear hDl hd3 g7 hq1 g6 hD hl
    replace bb := bb.go0 g8
    replace g := g.trans0 g8
    replace hp := hp.go0 g8
    replace hd1 := g8.chg _ _ hd1 (by simp)
    replace hd2 := hd2.go g8
    walk_at "rd"
    refine tupL bb.a fun y1 J2 j2 _ e1 => ?_
    replace bb := bb.go0 j2
    replace g := g.trans0 j2
    replace hp := hp.go0 j2
    walk_at "rd"
    refine tupL bb.b fun y2 J3 j3 _ e2 => ?_
    replace bb := bb.go0 j3
    replace g := g.trans0 j3
    replace hp := hp.go0 j3
    walk_at "rd"
    refine tupL bb.c fun y3 J4 j4 _ e3 => ?_
    replace bb := bb.go0 j4
    replace g := g.trans0 j4
    replace hp := hp.go0 j4
    have jj := (j2.trans' j3).trans' j4
    replace hd1 := jj.chg _ _ hd1 (by simp)
    replace hd2 := hd2.go jj
    walk_at "rd"
    refine c_lcL ?_
    walk_at "rd"
    refine lcL (sqL hd1) (fun D i ys Hc => Go [] J4 Hc ∧ ys = (((plP (wkN t plan op ps N).p).map Prod.snd).take i).map V.int) (fun D hD => ⟨Go.new hD, rfl⟩) (fun D i ys Hc hD r => sqL (r.1.chg _ _ hd1 (by simp))) (fun D i ys x Hc hD hi hx hl hDl r => ?_) fun D ys Hc hD hDl hl r => ?_
    · obtain ⟨g6, rfl⟩ := r
      have hi1 : i < qs.length := by simpa using hi
      have hi2 : i < (plP (wkN t plan op ps N).p).length := by rw [← hd2.1]; exact hi1
      have ex : x = .ref qs[i] := by
        rw [List.getElem?_map, List.getElem?_eq_getElem hi1] at hx
        exact (Option.some.inj hx).symm
      subst ex
      refine c_tupG (g6.tup (hd2.2 i _ _ (List.getElem?_eq_getElem hi1) (List.getElem?_eq_getElem hi2))) rfl ?_
      walk_at "rd"
      refine ⟨rfl, ?_⟩
      walk_at "rd"
      refine lcEnd hDl hl (Nat.lt_of_lt_of_le hi2 (by rw [plP_len]; exact Nat.le_trans bnd.2.2.2 (by decide))) ⟨g6.updF hD, ?_⟩
      rw [List.take_add_one, List.getElem?_map, List.getElem?_eq_getElem hi2, List.map_append]
      rfl
    obtain ⟨g6, rfl⟩ := r
    rw [List.length_map, hd2.1, List.take_of_length_le (by simp)] at hDl
    rw [plP_snd] at hDl
    replace bb := bb.go0 g6
    replace g := g.trans0 g6
    replace hp := hp.go0 g6
    walk_at "rd"
    refine tupL hDl fun y4 J6 j6 _ e4 => ?_
    replace bb := bb.go0 j6
    replace g := g.trans0 j6
    replace hp := hp.go0 j6
    walk_at "rd"
    refine ⟨X.e, _, rfl, bb.e, Nat.le_trans (wts_len N) (by omega), fun J7 y5 qs5 j7 e5 hst => ?_⟩
    replace bb := bb.go0 j7
    replace g := g.trans0 j7
    replace hp := hp.go0 j7
    walk_at "rd"
    refine tupL bb.f fun y6 J8 j8 _ e6 => ?_
    replace g := g.trans0 j8
    replace hp := hp.go0 j8
    walk_at "rd"
    refine newLst fun x9 J9 j9 _ e9 => ?_
    rw [grp_run ok oo po ro N] at hst
    have k8 := j8.trans' j9
    have k7 := j7.trans' k8
    have k6 := j6.trans' k7
    have k5 := g6.trans' k6
    have k4 := j4.trans' k5
    have k3 := j3.trans' k4
    exact hq _ x9 W (g.trans0 j9) (hp.go0 j9) hs hnt ⟨y1, y2, y3, y4, y5, y6, qs5, e9, k3.fix _ _ e1 rfl, k4.fix _ _ e2 rfl, k5.fix _ _ e3 rfl, k7.fix _ _ e4 rfl, k8.fix _ _ e5 rfl, hst.go k8, j9.fix _ _ e6 rfl⟩
end
end Rp
end
section
set_option Elab.async false
set_option linter.all false
set_option maxRecDepth 100000
set_option maxHeartbeats 1000000
/-! Data whose text fits. -/
namespace Rp
open PySem PySem.Spec PyProof.Rows L2
/-- data that repr tells -/
structure RpOk (x : PyData) (n w : Nat) : Prop where
  s : x.showable = true
  h : x.hasDict = false
  d : x.depth ≤ n
  l : x.leavesShort 13 = true
  w : x.weight ≤ w
structure RpAll (ds : List PyData) (n w : Nat) : Prop where
  s : PyData.showableAll ds = true
  h : PyData.hasDictAll ds = false
  d : PyData.depthAll ds ≤ n
  l : PyData.leavesShortAll 13 ds = true
  w : PyData.weightAll ds ≤ w
theorem RpAll.nil (n w : Nat) : RpAll [] n w := ⟨by simp [PyData.showableAll], by simp [PyData.hasDictAll], by simp [PyData.depthAll], by simp [PyData.leavesShortAll], by simp [PyData.weightAll]⟩
theorem RpAll.cons {d : PyData} {ds : List PyData} {n w v : Nat} (a : RpOk d n w) (b : RpAll ds n v) : RpAll (d :: ds) n (w + 1 + v) := by
  refine ⟨?_, ?_, ?_, ?_, ?_⟩
  · simp only [PyData.showableAll, a.s, b.s, Bool.and_self]
  · simp only [PyData.hasDictAll, a.h, b.h, Bool.or_self]
  · simp only [PyData.depthAll]
    have := a.d
    have := b.d
    omega
  · simp only [PyData.leavesShortAll, a.l, b.l, Bool.and_self]
  · simp only [PyData.weightAll]
    have := a.w
    have := b.w
    omega
theorem RpOk.int {i : Int} (h : i.natAbs < 10 ^ 12) (n : Nat) : RpOk (.int i) n 40 := by
  refine ⟨?_, by simp only [PyData.hasDict], by simp only [PyData.depth]; omega, ?_, ?_⟩
  · simp only [PyData.showable, decide_eq_true_eq]
    by_cases h0 : i.natAbs = 0
    · rw [h0]; decide
    · exact Nat.lt_of_lt_of_le ((Nat.log2_lt h0).mpr (show i.natAbs < 2 ^ 40 by omega)) (by decide)
  · simp only [PyData.leavesShort, decide_eq_true_eq]
    exact PyData.shown_int_le h
  · simp only [PyData.weight]
    by_cases h0 : i.natAbs = 0
    · have e : i = 0 := by omega
      rw [e]
      decide
    · have e : (i == 0) = false := by
        rw [beq_eq_false_iff_ne]
        omega
      rw [e]
      have z := (Nat.log2_lt h0).mpr (show i.natAbs < 2 ^ 40 by omega)
      show i.natAbs.log2 + 1 ≤ 40
      omega
theorem RpOk.tup {ds : List PyData} {n w : Nat} (a : RpAll ds n w) : RpOk (.tuple ds) (n + 1) w :=
  ⟨by simp only [PyData.showable, a.s], by simp only [PyData.hasDict, a.h], by simp only [PyData.depth]; have := a.d; omega, by simp only [PyData.leavesShort, a.l], by simp only [PyData.weight]; exact a.w⟩
theorem RpOk.lst {ds : List PyData} {n w : Nat} (a : RpAll ds n w) : RpOk (.list ds) (n + 1) w :=
  ⟨by simp only [PyData.showable, a.s], by simp only [PyData.hasDict, a.h], by simp only [PyData.depth]; have := a.d; omega, by simp only [PyData.leavesShort, a.l], by simp only [PyData.weight]; exact a.w⟩
theorem RpAll.ints (n : Nat) : ∀ ns : List Int, (∀ i ∈ ns, i.natAbs < 10 ^ 12) → RpAll (ns.map PyData.int) n (41 * ns.length)
  | [], _ => RpAll.nil n 0
  | i :: ns, h => by
    have r := RpAll.cons (RpOk.int (h i List.mem_cons_self) n) (RpAll.ints n ns fun j hj => h j (List.mem_cons_of_mem _ hj))
    rw [List.length_cons, show 41 * (ns.length + 1) = 40 + 1 + 41 * ns.length by omega]
    exact r
theorem RpAll.pairs (n : Nat) : ∀ st : List (Int × Int), (∀ q ∈ st, q.1.natAbs < 10 ^ 12 ∧ q.2.natAbs < 10 ^ 12) → RpAll (st.map fun q => PyData.tuple [.int q.1, .int q.2]) (n + 1) (83 * st.length)
  | [], _ => RpAll.nil _ _
  | q :: st, h => by
    have hq := h q List.mem_cons_self
    have r := RpAll.cons (RpOk.tup (RpAll.cons (RpOk.int hq.1 n) (RpAll.cons (RpOk.int hq.2 n) (RpAll.nil n 0)))) (RpAll.pairs n st fun j hj => h j (List.mem_cons_of_mem _ hj))
    rw [List.length_cons, show 83 * (st.length + 1) = 40 + 1 + (40 + 1 + 0) + 1 + 83 * st.length by omega]
    exact r
theorem RpOk.fits {d : PyData} {n w : Nat} (h : RpOk d n w) (hw : w ≤ 2 ^ 20) : d.shown.length ≤ sizeLine := PyData.shown_fits (B := 13) (by decide) (by decide) h.l (Nat.le_trans h.w hw)
theorem c_repr {K : PySem.W.Frag} {H : Hp} {Q : VK} {x : Addr} {d : PyData} {n w : Nat} (h : Dp K H (.ref x) d) (r : RpOk d n w) (hn : n ≤ 60) (hw : w ≤ 2 ^ 20) (q : Q (.str d.shown) H) : rRepr K [.ref x] H Q :=
  ⟨x, d, rfl, h, r.s, r.h, Nat.le_trans r.d hn, r.fits hw, q⟩
end Rp
end
section
set_option Elab.async false
set_option linter.all false
set_option maxRecDepth 100000
set_option maxHeartbeats 1000000
/-! How great the told numbers are. -/
namespace Rp
open PySem PySem.Spec PyProof.Rows L2
structure WBd (n : Nat) (W : Wk) : Prop where
  g : ∀ x ∈ W.g, 0 ≤ x ∧ x ≤ n
  f : ∀ x ∈ W.f, 0 ≤ x ∧ x ≤ n
  p : ∀ x ∈ W.p, 0 ≤ x ∧ x ≤ n
  st : ∀ q ∈ W.st, 0 ≤ q.1 ∧ q.1 ≤ n ∧ 0 ≤ q.2 ∧ q.2 ≤ n
  k : ∀ x ∈ W.k, 0 ≤ x ∧ x ≤ 240
section
variable {t : Tk} {R : Nat} {op : Op} {plan : List Int} {ps : List (Int × Int)}
theorem snoc_bd {l : List Int} {x : Int} {P : Int → Prop} (h : ∀ y ∈ l, P y) (hx : P x) : ∀ y ∈ l ++ [x], P y := fun y hy => by
  rcases List.mem_append.mp hy with e | e
  · exact h y e
  · rw [List.mem_singleton.mp e]
    exact hx
theorem wkStep_f (v : Int) (sl : V) (W : Wk) : (wkStep t op v sl W).f = if W.s.n < (beatS t W.s v op.b op.a op.m).n then W.f ++ [W.b + 1] else W.f := rfl
theorem wkStep_p (v : Int) (sl : V) (W : Wk) : (wkStep t op v sl W).p = if W.s.p < (beatS t W.s v op.b op.a op.m).p then W.p ++ [W.b] else W.p := rfl
theorem wkN_bd (ok : TkOk t R) (oo : OpOk t op) (po : PlOk t R plan) (ro : RdOk ps) : ∀ n, WBd n (wkN t plan op ps n)
  | 0 => ⟨(fun x h => by cases h), (fun x h => by cases h), (fun x h => by cases h), (fun x h => by cases h), (fun x h => by cases h)⟩
  | n + 1 => by
    have ih := wkN_bd ok oo po ro n
    have i0 := wkN_inv (t := t) ok oo po ro n
    have i1 := wkN_inv (t := t) ok oo po ro (n + 1)
    obtain ⟨cf, cp, ck, cb, _, _⟩ := chose_same t plan op (wkN t plan op ps n)
    have cst : (wkChoose t plan op (wkN t plan op ps n)).st = (wkN t plan op ps n).st := by
      unfold wkChoose
      split <;> rfl
    have hb : (wkChoose t plan op (wkN t plan op ps n)).b = n := by rw [cb, wkN_b]
    have cg : ∀ x ∈ (wkChoose t plan op (wkN t plan op ps n)).g, 0 ≤ x ∧ x ≤ ((n + 1 : Nat) : Int) := by
      unfold wkChoose
      split
      · refine snoc_bd (P := fun x => 0 ≤ x ∧ x ≤ ((n + 1 : Nat) : Int)) (fun x hx => ?_) ?_
        · have := ih.g x hx
          omega
        · rw [wkN_b]
          omega
      · intro x hx
        have := ih.g x hx
        omega
    have hk : 0 ≤ (wkN t plan op ps (n + 1)).s.k ∧ (wkN t plan op ps (n + 1)).s.k ≤ 240 := by
      have h1 := i1.s.kp
      have h2 := i1.s.k0
      have h3 := i1.s.p0
      have h4 := pre_le ok i1.s.ok.n
      have h5 := (sum_ls ok).2
      omega
    have e : wkN t plan op ps (n + 1) = wkStep t op (spd ps n) .non (wkChoose t plan op (wkN t plan op ps n)) := rfl
    refine ⟨cg, ?_, ?_, ?_, ?_⟩
    · rw [e, wkStep_f, cf, hb]
      split
      · refine snoc_bd (P := fun x => 0 ≤ x ∧ x ≤ ((n + 1 : Nat) : Int)) (fun x hx => ?_) (by omega)
        have := ih.f x hx
        omega
      · intro x hx
        have := ih.f x hx
        omega
    · rw [e, wkStep_p, cp, hb]
      split
      · refine snoc_bd (P := fun x => 0 ≤ x ∧ x ≤ ((n + 1 : Nat) : Int)) (fun x hx => ?_) (by omega)
        have := ih.p x hx
        omega
      · intro x hx
        have := ih.p x hx
        omega
    · rw [e]
      show ∀ q ∈ stNext _ _ (wkChoose t plan op (wkN t plan op ps n)).b (wkChoose t plan op (wkN t plan op ps n)).st, _
      rw [cst, hb]
      have hw : ∀ q ∈ (wkN t plan op ps n).st, 0 ≤ q.1 ∧ q.1 ≤ ((n + 1 : Nat) : Int) ∧ 0 ≤ q.2 ∧ q.2 ≤ ((n + 1 : Nat) : Int) := fun q hq => by
        have := ih.st q hq
        omega
      unfold stNext
      split
      · exact hw
      · split
        · split
          · intro q hq
            rcases List.mem_append.mp hq with z | z
            · exact hw q z
            · rw [List.mem_singleton.mp z]
              exact ⟨by show (0 : Int) ≤ n; omega, by show (n : Int) ≤ _; omega, by show (0 : Int) ≤ 1; decide, by show (1 : Int) ≤ _; omega⟩
          · intro q hq
            rcases List.mem_append.mp hq with z | z
            · exact hw q ((List.dropLast_sublist _).subset z)
            · rw [List.mem_singleton.mp z]
              generalize hst : (wkN t plan op ps n).st = st at *
              by_cases hne : st = []
              · rw [hne]
                exact ⟨by decide, by show (0 : Int) ≤ _; omega, by decide, by show (0 : Int) + 1 ≤ _; omega⟩
              · have e4 : st.getLastD (0, 0) = st.getLast hne := by
                  rw [List.getLastD_eq_getLast?, List.getLast?_eq_some_getLast hne]
                  rfl
                have z2 := ih.st _ (by rw [hst]; exact List.getLast_mem hne)
                rw [← e4] at z2
                exact ⟨z2.1, by omega, by show 0 ≤ (st.getLastD (0, 0)).2 + 1; omega, by show (st.getLastD (0, 0)).2 + 1 ≤ _; omega⟩
        · exact hw
    · rw [e]
      show ∀ x ∈ (wkChoose t plan op (wkN t plan op ps n)).k ++ [(wkN t plan op ps (n + 1)).s.k], _
      rw [ck]
      exact snoc_bd (P := fun x => 0 ≤ x ∧ x ≤ 240) ih.k hk
/-- the told lists as data -/
def toldD (W : Wk) : PyData := .list [.tuple (W.r.map .int), .tuple (W.g.map .int), .tuple (W.f.map .int), .tuple (W.p.map .int), .tuple (W.st.map fun q => .tuple [.int q.1, .int q.2]), .tuple (W.k.map .int)]
theorem told_ok (ok : TkOk t R) (oo : OpOk t op) (po : PlOk t R plan) (ro : RdOk ps) {N : Nat} (hN : N ≤ 190) : ∃ n w, n ≤ 60 ∧ w ≤ 2 ^ 20 ∧ RpOk (toldD (wkN t plan op ps N)) n w := by
  have b := wkN_bd (t := t) ok oo po ro N
  have i := wkN_inv (t := t) ok oo po ro N
  have o := i.wkOk ok oo po (by omega)
  have hr : ∀ x ∈ (wkN t plan op ps N).r, x.natAbs < 10 ^ 12 := fun x hx => by
    rw [i.r] at hx
    have := po.r x (List.mem_of_mem_take hx)
    have := ok.r1
    omega
  have hg : ∀ x ∈ (wkN t plan op ps N).g, x.natAbs < 10 ^ 12 := fun x hx => by have := b.g x hx; omega
  have hf : ∀ x ∈ (wkN t plan op ps N).f, x.natAbs < 10 ^ 12 := fun x hx => by have := b.f x hx; omega
  have hp : ∀ x ∈ (wkN t plan op ps N).p, x.natAbs < 10 ^ 12 := fun x hx => by have := b.p x hx; omega
  have hk : ∀ x ∈ (wkN t plan op ps N).k, x.natAbs < 10 ^ 12 := fun x hx => by have := b.k x hx; omega
  have hs : ∀ q ∈ (wkN t plan op ps N).st, q.1.natAbs < 10 ^ 12 ∧ q.2.natAbs < 10 ^ 12 := fun x hx => by have := b.st x hx; omega
  have l1 := o.rl.1
  have l2 := o.rl.2.1
  have l3 := o.rl.2.2.1
  have l4 := o.rl.2.2.2
  have l5 := i.sl
  have l6 := i.kl
  refine ⟨_, _, ?_, ?_, RpOk.lst (RpAll.cons (RpOk.tup (RpAll.ints 1 _ hr)) (RpAll.cons (RpOk.tup (RpAll.ints 1 _ hg)) (RpAll.cons (RpOk.tup (RpAll.ints 1 _ hf)) (RpAll.cons (RpOk.tup (RpAll.ints 1 _ hp)) (RpAll.cons (RpOk.tup (RpAll.pairs 0 _ hs)) (RpAll.cons (RpOk.tup (RpAll.ints 1 _ hk)) (RpAll.nil _ 0)))))))⟩
  · decide
  · omega
/-- the stand, the beats, none thrown, as data -/
def standD (s : Sd) (N : Int) : PyData := .list [.tuple [.int s.n, .int s.c, .int s.g, .int s.k, .int s.p, .int s.o], .int N, .int 0]
theorem stand_ok {s : Sd} {N : Nat} (h1 : s.n ≤ 100) (h2 : s.c.natAbs ≤ 100) (h3 : s.g.natAbs ≤ 100000) (h4 : s.k.natAbs ≤ 100000) (h5 : s.p.natAbs ≤ 100000) (h6 : s.o.natAbs ≤ 10) (hN : N ≤ 100000) : ∃ n w, n ≤ 60 ∧ w ≤ 2 ^ 20 ∧ RpOk (standD s N) n w := by
  refine ⟨_, _, ?_, ?_, RpOk.lst (RpAll.cons (RpOk.tup (RpAll.ints 1 [(s.n : Int), s.c, s.g, s.k, s.p, s.o] fun x hx => ?_)) (RpAll.cons (RpOk.int (by omega) _) (RpAll.cons (RpOk.int (by omega) _) (RpAll.nil _ 0))))⟩
  · decide
  · show _ ≤ _
    simp only [List.length_cons, List.length_nil]
    omega
  · simp only [List.mem_cons, List.not_mem_nil, or_false] at hx
    omega
end
end Rp
end
section
set_option Elab.async false
set_option linter.all false
set_option maxRecDepth 100000
set_option maxHeartbeats 4000000
namespace Rp
open PySem PySem.Spec PyProof.Rows L2
local macro_rules | `(tactic| walk_at "rd1") => `(tactic| with_reducible first
  | refine c_seq ?_ | refine c_asg ?_ | refine c_drop ?_ | refine c_ret ?_ | refine c_ifS ?_ | refine c_brk ?_ | refine c_name ?_
  | refine c_gcons ?_ | refine c_gnil ?_ | refine c_var (by with_unfolding_all rfl) ?_ | refine c_op ?_ | refine c_un ?_ | refine c_c ?_
  | refine c_I0 ?_ | refine c_U ?_ | refine c_ip ?_ | refine c_eqI ?_ | refine c_neI ?_ | refine c_test ?_ | refine c_tB ?_
  | refine c_not ?_ | refine c_and ?_ | refine c_or ?_ | refine c_andV ?_ | refine c_orV ?_ | refine c_notV ?_ | refine c_if ?_
  | refine c_cons ?_ | refine c_nil ?_ | refine c_tupN ?_ | refine c_lstN ?_ | refine c_CB ?_ | refine c_call ?_ | refine c_meth ?_ | refine c_fld ?_ | refine c_sfld ?_ | refine c_gfld ?_
  | refine c_aug (by with_unfolding_all rfl) ?_ | refine c_fldaug ?_ | refine c_sl ?_ | refine c_noPart ?_ | refine c_part ?_ | refine c_callN ?_ | refine c_bm ?_ | refine c_bm0 ?_ | refine c_make ?_ | refine c_makeK ?_ | refine c_asg2 ?_ | refine c_asg3 ?_ | refine c_itT ?_ | refine c_itN ?_ | refine c_itNT ?_ | refine c_itF ?_ | refine c_chain ?_ | refine c_next ?_ | refine ⟨_, (rfl : V.bl _ = V.bl _), ?_⟩ | refine ⟨_, (rfl : V.int _ = V.int _), ?_⟩)
local macro_rules | `(tactic| walk_at "rs1") => `(tactic| with_reducible first
  | refine c_seq ?_ | refine c_asg ?_ | refine c_drop ?_ | refine c_ret ?_ | refine c_brk ?_ | refine c_name ?_
  | refine c_gcons ?_ | refine c_gnil ?_ | refine c_var (by with_unfolding_all rfl) ?_ | refine c_op ?_ | refine c_un ?_ | refine c_c ?_
  | refine c_I0 ?_ | refine c_U ?_ | refine c_ip ?_ | refine c_eqI ?_ | refine c_neI ?_ | refine c_test ?_ | refine c_tB ?_
  | refine c_not ?_ | refine c_and ?_ | refine c_or ?_ | refine c_andV ?_ | refine c_orV ?_ | refine c_notV ?_ | refine c_if ?_
  | refine c_cons ?_ | refine c_nil ?_ | refine c_tupN ?_ | refine c_lstN ?_ | refine c_CB ?_ | refine c_call ?_ | refine c_meth ?_ | refine c_fld ?_ | refine c_sfld ?_ | refine c_gfld ?_
  | refine c_aug (by with_unfolding_all rfl) ?_ | refine c_fldaug ?_ | refine c_sl ?_ | refine c_noPart ?_ | refine c_part ?_ | refine c_callN ?_ | refine c_bm ?_ | refine c_bm0 ?_ | refine c_make ?_ | refine c_makeK ?_ | refine c_asg2 ?_ | refine c_asg3 ?_ | refine c_itT ?_ | refine c_itN ?_ | refine c_itNT ?_ | refine c_itF ?_ | refine c_chain ?_ | refine c_next ?_ | refine ⟨_, (rfl : V.bl _ = V.bl _), ?_⟩ | refine ⟨_, (rfl : V.int _ = V.int _), ?_⟩)
local macro_rules | `(tactic| walk_at "rd") => `(tactic| repeat walk_at "rd1")
local macro_rules | `(tactic| walk_at "rs") => `(tactic| repeat walk_at "rs1")

section
variable {P : Program} {w : World} {K : PySem.W.Frag} {mg : Str → Option Value} {base : Heap} {PT : Addr}
/-- a def of which the code object is told -/
theorem has_ofC {x qual : Str} {params : Arguments} {body : List Stmt} {scope : Scope} {kws : List (Str × V)} {f : Addr} {N ps : List Str} {k : Nat} {sp : Sp} (p : He.Defn) (hf : He.fAd K p = f)
    (F : ∃ fd, FunD K x qual params body scope [] kws f fd) (S : FnScope N ps scope)
    (hb : ∀ (kV doc pm : Value) (an : Option Addr) (cdv ct : Value) (us : List Value), us.length = ps.length → bindArgs (PySem.W.fnOf x qual params body scope .none kV doc pm an cdv ct) ⟨us, []⟩ = pure (ps.zip us))
    (len : ∀ vs H Q E, sp vs H Q E → vs.length = ps.length)
    (hbody : ∀ (cdv : Value), cdv = .ref (He.codeOf K p) → ∀ (A : Around) (outer : List Env) (s : Shared) (H : Hp) (vs : List V) (Q : VK) (E : XK), Room k (A.deeper (envOfC qual scope s.heap.objs.size f cdv)) → sp vs H Q E →
      ∃ t, PSs (cxOf CX0 P w K mg base N qual scope f cdv A outer s H E).nox body t ∧ t { nx := fun _ H' => Q .non H', rt := Q } (start N vs) H) : Has P w K mg base (k + 1) f ps [] sp := by
  obtain ⟨fd, F⟩ := F
  refine ⟨⟨fd, [], ?_, F.bindsN hb, .nil⟩, F.kp⟩
  obtain ⟨oc, od, dV, kV, doc, pm, an, cdv, ct, osl, rfl, lk, hcd, _, _⟩ := F.ex
  obtain ⟨c, rfl⟩ := He.codeIn_ref hcd
  have e : He.codeOf K p = c := He.codeOf_eq (p := p) (by rw [hf]; exact lk) rfl
  refine fn_of lk hcd S len fun A outer s H vs Q E hr h => ?_
  obtain ⟨t, h1, h2⟩ := hbody _ (by rw [e]) A outer s H vs Q E hr h
  exact ⟨t, PSs.nox h1, h2⟩
theorem ok_law_over_all (T : Txt K mg) (TB : LamX.TabB base mg (He.codeOf K ("_law_over_all", none)) PT) : Has P w K mg base (7 + 1) (He.ga K "_law_over_all") ["_law_deck_here", "_law_player_here", "_law_speeds", "_law_plan", "_law_size"] [] (sp_law_over_all base PT K) :=
  has_ofC ("_law_over_all", none) rfl (fd_law_over_all T) sc_law_over_all (fun _ _ _ _ _ _ us hl => match us, hl with | [_, _, _, _, _], _ => rfl) (fun vs H Q E h => by
    obtain ⟨A, m, B, ta, t, R, op, plan, ps, N, sa, pl, z, L, rfl, _⟩ := h
    rfl) (bd_law_over_all T TB)
theorem r_ended {H : Hp} {Q : VK} {x : Addr} {W : Wk} {N : Nat} (T : Txt K mg) (h : RunAt K H x W N) (k : Q (.int (N : Nat)) H) : FldR K "ended" (.ref x) H Q := by
  obtain ⟨dx, a1, a2, a3, a4, a5, a6, ps, h0, _⟩ := h.ex
  exact f_Run_ended T h0 rfl k
def FrT (K : PySem.W.Frag) (g : TG) (tb : TS) (D : Ends) (σ : L2.St) (x : V) (H1 : Hp) : Prop := ∃ a, x = .ref a ∧ (∃ xs, SqT K H1 a xs) ∧ ∃ W : Nat → Nat → L2.St → Hp → Prop, (∃ m, W 0 m σ H1) ∧ ∀ i m σ H, W i m σ H →
  ((Itt K a).stop i H ∧ D.nx σ H) ∨ ((Itt K a).go i H ∧ ∃ N : L2.St → Hp → Prop, (∀ σ' H', N σ' H' → ∃ m', m' < m ∧ W (i + 1) m' σ' H') ∧ ∀ x H', (Itt K a).yld i H x H' → g x σ H' fun σ2 H2 => tb { D with nx := N, ct := N, bk := D.nx } σ2 H2)
theorem c_forT {tl : TE} {g : TG} {tb : TS} {D : Ends} {σ : L2.St} {H : Hp} (h : tl σ H fun x H1 => FrT K g tb D σ x H1) : tFor (iTup K tl) g tb D σ H := h
theorem forT {g : TG} {tb : TS} {D : Ends} {σ : L2.St} {H1 : Hp} {a : Addr} {xs : List V} (h : SqT K H1 a xs) (Pv : Nat → L2.St → Hp → Prop) (h0 : Pv 0 σ H1) (hG : ∀ i σ H, Pv i σ H → SqT K H a xs)
    (hs : ∀ i x σ H, i < xs.length → xs[i]? = some x → Pv i σ H → g x σ H fun σ2 H2 => tb { D with nx := Pv (i + 1), ct := Pv (i + 1), bk := D.nx } σ2 H2) (hd : ∀ σ H, Pv xs.length σ H → D.nx σ H) : FrT K g tb D σ (.ref a) H1 :=
  ⟨a, rfl, ⟨xs, h⟩, L2.for_it walk_tup Pv h0 (fun i σ H _ z => hG i σ H z) (fun i x σ H H' hi z y => by
    obtain ⟨rfl, hx⟩ := y
    exact hs i x σ H' hi hx z) hd⟩
theorem TkT.goT {S : List Addr} {H H' : Hp} {l z : Addr} {t : Tk} (h : TkT K H l z t) (g : GoT S H H') : TkT K H' l z t := by
  obtain ⟨rs, h1, h2, h3⟩ := h.ex
  exact ⟨rs, g.tup h1, g.tup h2, h3.1, fun i a row e1 e2 => g.tup (h3.2 i a row e1 e2)⟩
theorem cut_pre (xs : List V) (n : Nat) : cutV xs none (some (n : Int)) = xs.take n := by
  unfold cutV
  rw [HT.sIx_none, HT.sIx_nat, List.drop_zero, Nat.sub_zero, Nat.min_def]
  split
  · rfl
  · rw [List.take_of_length_le (Nat.le_refl _), List.take_of_length_le (by omega)]
theorem bd_law (T : Txt K mg) (TB : LamX.TabB base mg (He.codeOf K ("_law_over_all", none)) PT) (cdv : Value) (A : Around) (outer : List Env) (s : Shared) (H : Hp) (a : Addr) (ns : List Int) (Q : VK) (E : XK) (hg : A.guards = some []) (hr : Room 8 (A.deeper (envOfC "law" (defScope s_law) s.heap.objs.size (He.ga K "law") cdv))) (hS : SqL K H a (ns.map V.int)) (htab : TabsAt PT H) (hq : ∀ H', Q (.bl true) H') :
    ∃ t, PSs (cxOf CX0 P w K mg base ["_law_script", "_law_deck_here", "_law_lengths", "_law_sizes", "_law_told", "_law_talk_here", "_law_plan", "_law_k", "_law_road_here", "_law_run_here", "_law_speeds", "_law_at", "_law_stand", "_law_size", "_law_player_here", "_law_due"] "law" (defScope s_law) (He.ga K "law") cdv A outer s H E).nox (defBody s_law) t ∧ t { nx := fun _ H' => Q .non H', rt := Q } (start ["_law_script", "_law_deck_here", "_law_lengths", "_law_sizes", "_law_told", "_law_talk_here", "_law_plan", "_law_k", "_law_road_here", "_law_run_here", "_law_speeds", "_law_at", "_law_stand", "_law_size", "_law_player_here", "_law_due"] [.ref a]) H := by
  refine ⟨_, (pss_cons (ps_set (i := 1) sc_law.nd rfl (Or.inr rfl) (pe_callH (ok_law_deck T) (hr.mono (by decide)) (by rfl) (g_law_deck T) (pa_cons (pv 0) pa_nil)))
      (pss_cons (ps_asg (pe_callH (ok_law_talk T) (hr.mono (by decide)) (by rfl) (g_law_talk T) (pa_cons (pv 1) (pa_cons (pe_cmpR op_eq (pe_callH (ok_law_draw T) (hr.mono (by decide)) (by rfl) (g_law_draw T) (pa_cons (pv 1) (pa_cons pe_int pa_nil))) pe_int (nomark _)) pa_nil))) (pg_tup (n := 2) rfl (pgs_cons (pg_name (i := 2) sc_law.nd rfl (Or.inl rfl)) (pgs_cons (pg_name (i := 3) sc_law.nd rfl (Or.inr rfl)) pgs_nil))))
      (pss_cons (ps_set (i := 4) sc_law.nd rfl (Or.inl rfl) (pe_callH (ok_law_options T) (hr.mono (by decide)) (by rfl) (g_law_options T) (pa_cons (pv 1) (pa_cons (pv 2) pa_nil))))
      (pss_cons (ps_set (i := 5) sc_law.nd rfl (Or.inl rfl) (pe_makeH (mk_Talk T) (ok_Talk_init T) (hr.mono (by decide)) (by rfl) (g_Talk T) (pa_cons (pv 2) (pa_cons (pv 3) pa_nil))))
      (pss_cons (ps_set (i := 6) sc_law.nd rfl (Or.inl rfl) (pe_callTy call_tupR (by rfl) (b_tuple T) bt_tuple (pa_cons (pe_lc (own := [("_law_k", 7)]) (g := gName 7) (tt := tYes) (te := (tCall (sp_law_draw K) [] E0 (tCons (tVar 1) (tCons (tCB (rLenQ K) (tCons (tOp (rIxT K) (tVar 3) (tC (.int 0))) tNil)) tNil)))) rfl sc_law.nd (pi_range1 (by rfl) (b_range T) (pa_cons (pe_callB call_lenR (by rfl) (b_len T) bt_len (pa_cons (pv 2) pa_nil)) pa_nil)) (blkOk_by (N := ["_law_script", "_law_deck_here", "_law_lengths", "_law_sizes", "_law_told", "_law_talk_here", "_law_plan", "_law_k", "_law_road_here", "_law_run_here", "_law_speeds", "_law_at", "_law_stand", "_law_size", "_law_player_here", "_law_due"]) (sc := defScope s_law) (by decide +kernel)) (fun _ _ _ _ _ => (pg_name (i := 7) sc_law.nd rfl (Or.inl rfl))) (fun _ _ _ _ _ => pts_nil) (fun _ _ _ _ _ => (pe_callH (ok_law_draw T) (hr.mono (by decide)) (by rfl) (g_law_draw T) (pa_cons (pv 1) (pa_cons (pe_callB call_lenR (by rfl) (b_len T) bt_len (pa_cons (pe_ix ix_tup (pv 3) pe_int (fun _ _ => rfl)) pa_nil)) pa_nil))))) pa_nil)))
      (pss_cons (ps_set (i := 8) sc_law.nd rfl (Or.inr rfl) (pe_makeH (mk_Road T) (ok_Road_init T) (hr.mono (by decide)) (by rfl) (g_Road T) (pa_cons (pe_callH (ok_law_road T) (hr.mono (by decide)) (by rfl) (g_law_road T) (pa_cons (pv 1) pa_nil)) pa_nil)))
      (pss_cons (ps_set (i := 9) sc_law.nd rfl (Or.inl rfl) (pe_callH (ok_law_run T) (hr.mono (by decide)) (by rfl) (g_law_run T) (pa_cons (pv 5) (pa_cons (pv 8) (pa_cons (pv 6) (pa_cons (pv 4) pa_nil))))))
      (pss_cons (ps_set (i := 10) sc_law.nd rfl (Or.inl rfl) (pe_callTy call_tupR (by rfl) (b_tuple T) bt_tuple (pa_cons (pe_lc (own := [("_law_at", 11)]) (g := gName 11) (tt := tYes) (te := (tMeth (He.ga K "Road") "speed_at" (sp_Road_speed_at K) [] E0 (tVar 8) (tCons (tVar 11) tNil))) rfl sc_law.nd (pi_range1 (by rfl) (b_range T) (pa_cons (pe_op op_add (pe_fld (pv 9) rfl) (pe_callH (ok_law_draw T) (hr.mono (by decide)) (by rfl) (g_law_draw T) (pa_cons (pv 1) (pa_cons pe_int pa_nil)))) pa_nil)) (blkOk_by (N := ["_law_script", "_law_deck_here", "_law_lengths", "_law_sizes", "_law_told", "_law_talk_here", "_law_plan", "_law_k", "_law_road_here", "_law_run_here", "_law_speeds", "_law_at", "_law_stand", "_law_size", "_law_player_here", "_law_due"]) (sc := defScope s_law) (by decide +kernel)) (fun _ _ _ _ _ => (pg_name (i := 11) sc_law.nd rfl (Or.inl rfl))) (fun _ _ _ _ _ => pts_nil) (fun _ _ _ _ _ => (pe_methH (ok_Road_speed_at T) (c_Road T) (m_Road_speed_at T) (hr.mono (by decide)) (pv 8) (pa_cons (pv 11) pa_nil)))) pa_nil)))
      (pss_cons (ps_set (i := 12) sc_law.nd rfl (Or.inl rfl) (pe_tup (pa_cons (pe_callB call_lenR (by rfl) (b_len T) bt_len (pa_cons (pv 2) pa_nil)) (pa_cons (pe_un un_neg pe_int) (pa_cons pe_int (pa_cons pe_int (pa_cons (pe_callB (cr_sumT rfl) (by rfl) (b_sum T) bt_sum (pa_cons (pv 2) pa_nil)) (pa_cons pe_int pa_nil))))))))
      (pss_cons (ps_for PassesOwn.never rfl (pi_tup (pe_tup (pa_cons pe_int (pa_cons pe_int pa_nil)))) (pg_name (i := 13) sc_law.nd rfl (Or.inl rfl)) (pss_cons (ps_set (i := 14) sc_law.nd rfl (Or.inl rfl) (pe_callH (ok_law_player T) (hr.mono (by decide)) (by rfl) (g_law_player T) (pa_cons (pv 5) (pa_cons (pv 4) pa_nil))))
      (pss_cons (ps_if (pt_cmpR op_ne (pe_callH (ok_law_over_all T TB) (hr.mono (by decide)) (by rfl) (g_law_over_all T) (pa_cons (pv 1) (pa_cons (pv 14) (pa_cons (pv 10) (pa_cons (pv 6) (pa_cons (pv 13) pa_nil)))))) (pe_fld (pv 9) rfl) (nomark _)) (pss_one (ps_ret pe_bl)) pss_nil)
      (pss_one (ps_if (pt_cmpR op_ne (pe_callB (cr_repr hr.units hg) (by rfl) (b_repr T) bt_repr (pa_cons (pe_lst (pa_cons (pe_methH0 (ok_Player_stand_now T) (c_Player T) (m_Player_stand_now T) (hr.mono (by decide)) (pv 14)) (pa_cons (pe_methH0 (ok_Player_gone_by T) (c_Player T) (m_Player_gone_by T) (hr.mono (by decide)) (pv 14)) (pa_cons (pe_methH0 (ok_Player_thrown T) (c_Player T) (m_Player_thrown T) (hr.mono (by decide)) (pv 14)) pa_nil)))) pa_nil)) (pe_callB (cr_repr hr.units hg) (by rfl) (b_repr T) bt_repr (pa_cons (pe_lst (pa_cons (pv 12) (pa_cons (pe_fld (pv 9) rfl) (pa_cons pe_int pa_nil)))) pa_nil)) (nomark _)) (pss_one (ps_ret pe_bl)) pss_nil)))))
      (pss_cons (ps_if (pt_cmpR op_le (pe_op op_add (pe_fld (pv 9) rfl) (pe_callB call_lenR (by rfl) (b_len T) bt_len (pa_cons (pv 2) pa_nil))) pe_int (nomark _)) (pss_cons (ps_set (i := 14) sc_law.nd rfl (Or.inl rfl) (pe_callH (ok_law_player T) (hr.mono (by decide)) (by rfl) (g_law_player T) (pa_cons (pv 5) (pa_cons (pv 4) pa_nil))))
      (pss_cons (ps_set (i := 15) sc_law.nd rfl (Or.inl rfl) (pe_lst (pa_cons (pe_fld (pv 9) rfl) (pa_cons (pe_fld (pv 9) rfl) (pa_cons (pe_fld (pv 9) rfl) (pa_cons (pe_fld (pv 9) rfl) (pa_cons (pe_fld (pv 9) rfl) (pa_cons (pe_fld (pv 9) rfl) pa_nil))))))))
      (pss_cons (ps_if (pt_cmpR op_ne (pe_callB (cr_repr hr.units hg) (by rfl) (b_repr T) bt_repr (pa_cons (pe_callH (ok_law_by_beats T) (hr.mono (by decide)) (by rfl) (g_law_by_beats T) (pa_cons (pv 14) (pa_cons (pv 5) (pa_cons (pv 4) (pa_cons (pe_slice sl_tupA (pv 10) po_none (po_some (pe_fld (pv 9) rfl))) (pa_cons (pv 6) pa_nil)))))) pa_nil)) (pe_callB (cr_repr hr.units hg) (by rfl) (b_repr T) bt_repr (pa_cons (pv 15) pa_nil)) (nomark _)) (pss_one (ps_ret pe_bl)) pss_nil)
      (pss_one (ps_if (PW.pt (pw_or (pt_cmpR op_ne (pe_methH (ok_Player_over T) (c_Player T) (m_Player_over T) (hr.mono (by decide)) (pv 14) (pa_cons (pv 10) pa_nil)) pe_int (nomark _)) (pw_or (pt_cmpR (op_neD hr.units) (pe_ix ix_tup (pe_methH0 (ok_Player_notes T) (c_Player T) (m_Player_notes T) (hr.mono (by decide)) (pv 14)) (pe_un un_neg pe_int) (fun _ _ => rfl)) (pe_tup (pa_cons pe_str (pa_cons pe_str pa_nil))) (nomark _)) (pw_or1 (pt_cmpR (op_neD hr.units) (pe_methH0 (ok_Player_stand_now T) (c_Player T) (m_Player_stand_now T) (hr.mono (by decide)) (pv 14)) (pv 12) (nomark _)))))) (pss_one (ps_ret pe_bl)) pss_nil))))) pss_nil)
      (pss_one (ps_ret (pe_cmpR (op_eqD hr.units) (pe_fld (pv 9) rfl) (pv 6) (nomark _))))))))))))))), ?_⟩
  walk_at "rd"
  refine ⟨a, ns, rfl, hS, fun H1 A g hd _ _ => ?_⟩
  replace htab := tabs_go htab g (by simp)
  clear hS g
  walk_at "rd"
  refine ⟨A, 0, 8, rfl, hd, by decide, by decide, by decide, fun H2 r8 g hd2 _ _ => ?_⟩
  replace htab := tabs_go htab g (tabs_off htab hd)
  clear hd g
  walk_at "rd"
  refine ⟨A, 1, _, rfl, hd2, by decide, fun H3 p3 l z t R m3 g hd hm3 hp3 htk ok => ?_⟩
  replace htab := tabs_go htab g (tabs_off htab hd2)
  clear hd2 g
  refine c_tupG hp3 rfl ?_
  clear hp3
  walk_at "rd"
  refine ⟨A, m3, l, t, R, rfl, hd, by omega, htk.ex.choose_spec.1, ok, fun H4 lo op m4 g hd4 hm4 flo hlo oo => ?_⟩
  replace htab := tabs_go htab g (tabs_off htab hd)
  have olo := hd.off flo
  replace htk := htk.go g
  clear hd flo g
  walk_at "rd"
  intro tx tdx htx htdx htne
  refine ⟨tx, tdx, l, z, rfl, upd_same, fun H5 g5 e5 => ⟨rfl, ?_⟩⟩
  have g := go_init htx htdx htne g5
  replace htab := tabs_go htab g (by simp)
  have hd := hd4.go0 g
  replace hlo := g.chg _ _ hlo (by simp)
  replace htk := htk.go g
  have ht : TalkAt K H5 tx t := by
    obtain ⟨rs, u1, u2, u3⟩ := htk.ex
    exact ⟨tdx, l, z, rs, e5, u1, u2, u3⟩
  clear g5 e5 hd4 g htx htdx htne
  -- the plan
  walk_at "rd"
  refine c_lcG (K := K) ?_
  walk_at "rd"
  refine ⟨l, _, rfl, .inr htk.ex.choose_spec.1, ?_⟩
  rw [List.length_map]
  walk_at "rd"
  have hl12 := ok.l1
  refine lcG (by omega) (fun D i ys Hc => Go A.all H5 Hc ∧ ∃ m2, m2 ≤ m4 + i ∧ DeckAt K Hc A m2 ∧ ∃ row : List Int, ys = row.map V.int ∧ row.length = i ∧ ∀ x ∈ row, 0 ≤ x ∧ x < R) (fun D hD => ⟨Go.new hD, m4, Nat.le_refl _, hd.go0 (Go.new hD), [], rfl, rfl, by simp⟩) (fun D i ys Hc hD hi hl hDl r => ?_) fun D ys Hc hD hDl hl r => ?_
  · obtain ⟨g6, m2, hm2, hdc, row, rfl, hrl, hrow⟩ := r
    have off := hd.off hD
    obtain ⟨rs, u1, u2, u3, u4⟩ := (htk.go g6).ex
    have hrs0 : 0 < rs.length := by
      rw [u3, ok.zl]
      exact ok.l0
    have hzs0 : 0 < t.zs.length := by rw [ok.zl]; exact ok.l0
    walk_at "rd"
    refine ⟨rfl, ?_⟩
    walk_at "rd"
    refine c_ixT u2 (atI_ref (i := 0) (List.getElem?_eq_getElem hrs0)) ?_
    walk_at "rd"
    refine ⟨_, _, rfl, .inr (u4 0 _ _ (List.getElem?_eq_getElem hrs0) (List.getElem?_eq_getElem hzs0)), ?_⟩
    rw [List.length_map, ok.rl _ (List.getElem_mem hzs0)]
    walk_at "rd"
    have hr1 := ok.r0
    have hr4 := ok.r1
    refine ⟨A, m2, (R : Int), rfl, hdc, by omega, by omega, by omega, fun Hd x g7 hdd x0 x1 => ?_⟩
    refine lcEnd (g7.chg _ _ hDl off.1) hl (Nat.lt_of_lt_of_le hi (Nat.le_trans hl12 (by decide))) ⟨(g6.trans' g7).updF hD, m2 + 1, by omega, hdd.wr off, row ++ [x], by rw [List.map_append]; rfl, by rw [List.length_append, hrl]; rfl, fun y hy => ?_⟩
    rcases List.mem_append.mp hy with e | e
    · exact hrow y e
    · rw [List.mem_singleton.mp e]
      exact ⟨x0, x1⟩
  obtain ⟨g6, m6, hm6, hd6, plan, rfl, hpl1, hpl2⟩ := r
  have po : PlOk t R plan := ⟨hpl1, hpl2⟩
  replace htab := tabs_go htab g6 (tabs_off htab hd)
  replace hlo := g6.chg _ _ hlo olo.1
  replace htk := htk.go g6
  replace ht := ht.go g6
  clear hd g6 hl hD
  walk_at "rd"
  refine tupL hDl fun pl H7 g _ hpl => ?_
  replace htab := tabs_go htab g (by simp)
  have hd := hd6.go0 g
  replace hlo := g.chg _ _ hlo (by simp)
  replace htk := htk.go g
  replace ht := ht.go g
  clear hDl hd6 g
  -- the road
  walk_at "rd"
  refine ⟨A, m6, rfl, hd, by omega, fun H8 rp ps rs m8 g hd8 hm8 hrp hst ro => ?_⟩
  replace htab := tabs_go htab g (tabs_off htab hd)
  replace hlo := g.chg _ _ hlo olo.1
  replace htk := htk.go g
  replace ht := ht.go g
  replace hpl := g.fix _ _ hpl rfl
  clear hd g
  walk_at "rd"
  intro rx rdx hrx hrdx hrne
  refine ⟨rx, rdx, rp, rfl, upd_same, fun H9 g9 e9 => ⟨rfl, ?_⟩⟩
  have g := go_init hrx hrdx hrne g9
  replace htab := tabs_go htab g (by simp)
  have hd := hd8.go0 g
  replace hlo := g.chg _ _ hlo (by simp)
  replace htk := htk.go g
  replace ht := ht.go g
  replace hpl := g.fix _ _ hpl rfl
  have hro : RoadAt K H9 rx ps := ⟨rdx, rp, rs, e9, g.tup hrp, hst.1, fun i r q e1 e2 => g.tup (hst.2 i r q e1 e2)⟩
  clear g9 e9 hd8 g hrx hrdx hrne hrp hst
  -- the run
  obtain ⟨N, r1⟩ := run_ends (t := t) (R := R) (op := op) (plan := plan) (ps := ps) ok oo po ro
  have hN := r1.z
  walk_at "rd"
  refine ⟨tx, rx, pl, lo, t, R, N, op, plan, ps, rfl, ht, ok, hro, ro.ne, hpl, hlo, oo.m, r1, fun H10 xr g hrun => ?_⟩
  replace htab := tabs_go htab g (by simp)
  replace hd := hd.go0 g
  replace hlo := g.chg _ _ hlo (by simp)
  replace htk := htk.go g
  replace ht := ht.go g
  replace hpl := g.fix _ _ hpl rfl
  replace hro := hro.go g
  clear g
  -- the speeds
  walk_at "rd"
  refine c_lcG (K := K) ?_
  walk_at "rd"
  refine r_ended T hrun ?_
  walk_at "rd"
  refine ⟨A, m8, 5, rfl, hd, by omega, by decide, by decide, fun H11 d5 g hd11 d0 d1 => ?_⟩
  replace htab := tabs_go htab g (tabs_off htab hd)
  replace hlo := g.chg _ _ hlo olo.1
  replace htk := htk.go g
  replace ht := ht.go g
  replace hpl := g.fix _ _ hpl rfl
  replace hro := hro.go g
  replace hrun := hrun.go g
  clear hd g
  obtain ⟨L, hL⟩ : ∃ L : Nat, (N : Int) + d5 = (L : Int) := ⟨((N : Int) + d5).toNat, (Int.toNat_of_nonneg (by omega)).symm⟩
  walk_at "rd"
  rw [hL]
  refine lcG (by omega) (fun D i ys Hc => Go [] H11 Hc ∧ ys = ((List.range i).map fun j => spd ps j).map V.int) (fun D hD => ⟨Go.new hD, rfl⟩) (fun D i ys Hc hD hi hl hDl r => ?_) fun D ys Hc hD hDl hl r => ?_
  · obtain ⟨g6, rfl⟩ := r
    walk_at "rd"
    refine ⟨rfl, ?_⟩
    walk_at "rd"
    refine r_meth_road (hro.go g6) rfl ?_
    walk_at "rd"
    refine ⟨rx, (i : Nat), ps, rfl, hro.go g6, ro.ne, ?_⟩
    refine lcEnd hDl hl (Nat.lt_of_lt_of_le hi (Nat.le_trans (show L ≤ 100000 by omega) (by decide))) ⟨g6.updF hD, ?_⟩
    rw [List.range_succ, List.map_append, List.map_append]
    rfl
  obtain ⟨g6, rfl⟩ := r
  replace htab := tabs_go htab g6 (by simp)
  replace hd := hd11.go0 g6
  replace hlo := g6.chg _ _ hlo (by simp)
  replace htk := htk.go g6
  replace ht := ht.go g6
  replace hpl := g6.fix _ _ hpl rfl
  replace hrun := hrun.go g6
  clear hd11 g6 hl hD hro
  walk_at "rd"
  refine tupL hDl fun sp H12 g _ hsp => ?_
  replace htab := tabs_go htab g (by simp)
  replace hd := hd.go0 g
  replace hlo := g.chg _ _ hlo (by simp)
  replace htk := htk.go g
  replace ht := ht.go g
  replace hpl := g.fix _ _ hpl rfl
  replace hrun := hrun.go g
  clear hDl g
  have hsp' : H12 sp = some (.tup ((spds ps L).map V.int)) := hsp
  clear hsp
  -- the stand at the end
  walk_at "rd"
  refine ⟨l, _, rfl, .inr htk.ex.choose_spec.1, ?_⟩
  rw [List.length_map]
  walk_at "rd"
  refine ⟨l, t.ls, rfl, htk.ex.choose_spec.1, ?_⟩
  walk_at "rd"
  refine newTup fun st H13 g _ hst => ?_
  replace htab := tabs_go htab g (by simp)
  replace hd := hd.go0 g
  replace hlo := g.chg _ _ hlo (by simp)
  replace htk := htk.go g
  replace ht := ht.go g
  replace hpl := g.fix _ _ hpl rfl
  replace hrun := hrun.go g
  replace hsp' := g.fix _ _ hsp' rfl
  clear g
  obtain ⟨hrE, hsE⟩ := run_end ok oo po ro r1
  have hst' : SqT K H13 st (sdV (wkN t plan op ps N).s) := by
    rw [hsE]
    exact sqT hst
  clear hst
  have hNL : N ≤ L := by omega
  have hL9 : L ≤ 90010 := by omega
  walk_at "rs1"
  with_reducible refine c_seqC (fun σ' H' => ∃ m', m' ≤ m8 + 1 + 2 * L ∧ DeckAt K H' A m' ∧ TabsAt PT H' ∧ H' lo = some (.lst ((opV op).map V.int)) ∧ TkT K H' l z t ∧ TalkAt K H' tx t ∧ H' pl = some (.tup (plan.map V.int)) ∧ RunAt K H' xr (wkN t plan op ps N) N ∧ H' sp = some (.tup ((spds ps L).map V.int)) ∧ SqT K H' st (sdV (wkN t plan op ps N).s) ∧ σ'[1]? = some (some (.ref A.d)) ∧ σ'[2]? = some (some (.ref l)) ∧ σ'[4]? = some (some (.ref lo)) ∧ σ'[5]? = some (some (.ref tx)) ∧ σ'[6]? = some (some (.ref pl)) ∧ σ'[9]? = some (some (.ref xr)) ∧ σ'[10]? = some (some (.ref sp)) ∧ σ'[12]? = some (some (.ref st)) ∧ σ'.length = 16) (fun σ' H14 zz => ?_) fun N1 hN1 => ?_
  · clear htab hd hlo htk ht hpl hrun hsp' hst'
    obtain ⟨m', hm', hd, htab, hlo, htk, ht, hpl, hrun, hsp', hst', s1, s2, s4, s5, s6, s9, s10, s12, sl⟩ := zz
    match σ', s1, s2, s4, s5, s6, s9, s10, s12, sl with
    | [c0, c1, c2, c3, c4, c5, c6, c7, c8, c9, c10, c11, c12, c13, c14, c15], s1, s2, s4, s5, s6, s9, s10, s12, _ =>
    cases s1
    cases s2
    cases s4
    cases s5
    cases s6
    cases s9
    cases s10
    cases s12
    with_reducible refine c_seqC (fun σ' H' => RunAt K H' xr (wkN t plan op ps N) N ∧ H' pl = some (.tup (plan.map V.int)) ∧ σ'[6]? = some (some (.ref pl)) ∧ σ'[9]? = some (some (.ref xr)) ∧ σ'.length = 16) (fun σ' H15 zz => ?_) fun N2 hN2 => ?_
    · clear htab hd hlo htk ht hpl hrun hsp' hst'
      obtain ⟨hrun, hpl, s6, s9, sl⟩ := zz
      match σ', s6, s9, sl with
      | [c0, c1, c2, c3, c4, c5, c6, c7, c8, c9, c10, c11, c12, c13, c14, c15], s6, s9, _ =>
      cases s6
      cases s9
      walk_at "rd"
      obtain ⟨dx, a1, a2, a3, a4, a5, a6, qs, h0, h1, h2⟩ := hrun.ex
      refine f_Run_rates T h0 rfl ?_
      walk_at "rd"
      refine eqTT (ns := (wkN t plan op ps N).r) (ms := plan) (sqT h1) (sqT hpl) ?_
      rw [decide_eq_true hrE]
      exact hq _
    · walk_at "rd"
      refine r_ended T hrun ?_
      walk_at "rd"
      refine ⟨l, _, rfl, .inr htk.ex.choose_spec.1, ?_⟩
      rw [List.length_map]
      walk_at "rd"
      refine ifd (fun h190 => ?_) fun h190 => ?_
      · have hN190 : N ≤ 190 := by omega
        walk_at "rd"
        refine ⟨tx, lo, t, op, rfl, ht, hlo, oo.m, fun H1 B g fresh hp => ?_⟩
        have nlo : ¬ lo ∈ B.all := fun z => by
          rw [fresh lo z] at hlo
          cases hlo
        replace hlo := g.chg _ _ hlo (by simp)
        replace htk := htk.go g
        replace ht := ht.go g
        replace hpl := g.fix _ _ hpl rfl
        replace hrun := hrun.go g
        replace hsp' := g.fix _ _ hsp' rfl
        replace hst' := g.tup hst'
        clear g fresh
        obtain ⟨dx, a1, a2, a3, a4, a5, a6, qs, h0, h1, h2, h3, h4, h5, h6, h7⟩ := hrun.ex
        walk_at "rd"
        refine f_Run_rates T h0 rfl ?_
        walk_at "rd"
        refine f_Run_begun T h0 rfl ?_
        walk_at "rd"
        refine f_Run_whole T h0 rfl ?_
        walk_at "rd"
        refine f_Run_plays T h0 rfl ?_
        walk_at "rd"
        refine f_Run_stalls T h0 rfl ?_
        walk_at "rd"
        refine f_Run_kept T h0 rfl ?_
        walk_at "rd"
        refine newLst fun due H2 g fdue hdue => ?_
        have nd : ¬ due ∈ B.all := fun z => by
          obtain ⟨dx2, lo2, sa2, u1, _⟩ := hp.ob
          obtain ⟨qs3, u2, _⟩ := hp.nt
          simp only [Pa.all, List.mem_cons, List.not_mem_nil, or_false] at z
          rcases z with z | z
          · rw [z, u1] at fdue; cases fdue
          · rw [z, u2] at fdue; cases fdue
        replace hp := hp.go0 g
        replace hlo := g.chg _ _ hlo (by simp)
        replace htk := htk.go g
        replace ht := ht.go g
        replace hpl := g.fix _ _ hpl rfl
        replace hrun := hrun.go g
        replace hsp' := g.fix _ _ hsp' rfl
        replace hst' := g.tup hst'
        replace h1 := g.fix _ _ h1 rfl
        replace h2 := g.fix _ _ h2 rfl
        replace h3 := g.fix _ _ h3 rfl
        replace h4 := g.fix _ _ h4 rfl
        replace h5 := g.fix _ _ h5 rfl
        replace h6 := h6.go g
        replace h7 := g.fix _ _ h7 rfl
        clear g h0
        walk_at "rd"
        refine r_ended T hrun ?_
        walk_at "rd"
        refine c_slA (sqT hsp') (fun q H3 g hq3 => ?_) (fun z => cut_whole z)
        rw [cut_pre] at hq3
        have ecut : ((spds ps L).map V.int).take N = ((List.range N).map fun i => spd ps i).map V.int := by
          rw [← List.map_take]
          congr 1
          unfold spds
          rw [← List.map_take, List.take_range, Nat.min_eq_left hNL]
        rw [ecut] at hq3
        replace hp := hp.go0 g
        replace hlo := g.chg _ _ hlo (by simp)
        replace htk := htk.go g
        replace ht := ht.go g
        replace hpl := g.fix _ _ hpl rfl
        replace hrun := hrun.go g
        replace hsp' := g.fix _ _ hsp' rfl
        replace hst' := g.tup hst'
        replace hdue := g.chg _ _ hdue (by simp)
        replace h1 := g.fix _ _ h1 rfl
        replace h2 := g.fix _ _ h2 rfl
        replace h3 := g.fix _ _ h3 rfl
        replace h4 := g.fix _ _ h4 rfl
        replace h5 := g.fix _ _ h5 rfl
        replace h6 := h6.go g
        replace h7 := g.fix _ _ h7 rfl
        clear g
        obtain ⟨n1, w1, hn1, hw1, rok⟩ := told_ok (t := t) (op := op) (plan := plan) (ps := ps) ok oo po ro hN190
        walk_at "rd"
        refine ⟨B, tx, lo, q, pl, t, R, op, plan, ps, N, rfl, hp, ht, ok, oo, po, ro, r1, hlo, nlo, hq3, hN190, hpl, fun H4 x9 W g hp k1 k2 told => ?_⟩
        obtain ⟨y1, y2, y3, y4, y5, y6, qs2, e0, e1, e2, e3, e4, e5, e6, e7⟩ := told.ex
        walk_at "rd"
        refine c_repr (d := toldD (wkN t plan op ps N)) (.lst (sqL e0) (.cons (.tup (sqT e1) (dp_ints _)) (.cons (.tup (sqT e2) (dp_ints _)) (.cons (.tup (sqT e3) (dp_ints _)) (.cons (.tup (sqT e4) (dp_ints _)) (.cons (.tup (sqT e5) (dp_pairs e6)) (.cons (.tup (sqT e7) (dp_ints _)) .nil))))))) rok hn1 hw1 ?_
        replace hdue := g.chg _ _ hdue nd
        replace h1 := g.fix _ _ h1 rfl
        replace h2 := g.fix _ _ h2 rfl
        replace h3 := g.fix _ _ h3 rfl
        replace h4 := g.fix _ _ h4 rfl
        replace h5 := g.fix _ _ h5 rfl
        replace h6 := h6.go g
        replace h7 := g.fix _ _ h7 rfl
        replace ht := ht.go g
        replace hpl := g.fix _ _ hpl rfl
        replace hrun := hrun.go g
        replace hsp' := g.fix _ _ hsp' rfl
        replace hst' := g.tup hst'
        clear g hlo htk
        walk_at "rd"
        refine c_repr (d := toldD (wkN t plan op ps N)) (.lst (sqL hdue) (.cons (.tup (sqT h1) (dp_ints _)) (.cons (.tup (sqT h2) (dp_ints _)) (.cons (.tup (sqT h3) (dp_ints _)) (.cons (.tup (sqT h4) (dp_ints _)) (.cons (.tup (sqT h5) (dp_pairs h6)) (.cons (.tup (sqT h7) (dp_ints _)) .nil))))))) rok hn1 hw1 ?_
        walk_at "rd"
        refine ⟨rfl, ?_⟩
        rw [decide_eq_true rfl]
        clear hdue h1 h2 h3 h4 h5 h6 h7 e0 e1 e2 e3 e4 e5 e6 e7 told
        have hov : ov t op plan (spds ps L) W.s = (W.s, 0) := ov_end (by rw [k1]; exact r1.fin)
        have hnn : ∀ v ∈ spds ps L, 0 ≤ v := fun v hv => by
          obtain ⟨i, _, rfl⟩ := List.mem_map.mp hv
          exact spd_nn ro _
        walk_at "rd"
        refine rp_meth hp rfl ?_
        walk_at "rd"
        refine ⟨B, tx, op, W, t, R, plan, sp, spds ps L, .non, rfl, hp, ht, ok, by rw [k1]; exact (wkN_inv ok oo po ro N).s, oo, po, sqT hsp', hnn, Nat.lt_of_le_of_lt (show W.nt.length ≤ 1000 by omega) (by decide), .inl (by rw [k1]; exact r1.fin), fun H5 W5 g hp q1 q2 q3 => ?_⟩
        rw [hov] at q1 q2 ⊢
        replace hpl := g.fix _ _ hpl rfl
        replace hrun := hrun.go g
        replace hst' := g.tup hst'
        clear g
        walk_at "rd"
        refine ifdn (fun h => absurd rfl h) fun _ => ?_
        walk_at "rd"
        refine rp_meth hp rfl ?_
        walk_at "rd"
        refine ⟨B, tx, op, W5, rfl, hp, fun H6 p6 qs6 g hp6 hnt => ?_⟩
        rw [q3] at hnt
        have hl6 : qs6.length = W.nt.length + 1 := by rw [hnt.1, List.length_append]; rfl
        have hlt6 : W.nt.length < qs6.length := by omega
        have hr6 := hnt.2 W.nt.length _ (("over" : Str), ("done" : Str)) (List.getElem?_eq_getElem hlt6) (by rw [List.getElem?_append_right (Nat.le_refl _), Nat.sub_self]; rfl)
        have hat : atI (qs6.map V.ref) (-1) = some (.ref qs6[W.nt.length]) := by
          have hne : qs6.map V.ref ≠ [] := by
            intro z
            have := congrArg List.length z
            rw [List.length_map, hl6] at this
            cases this
          have e2 := List.dropLast_concat_getLast hne
          have e3 : (qs6.map V.ref).getLast hne = .ref qs6[W.nt.length] := by
            rw [List.getLast_eq_getElem, List.getElem_map]
            simp only [List.length_map, hl6, Nat.add_sub_cancel]
          rw [e3] at e2
          rw [← e2]
          exact atI_last _ _
        generalize qs6[W.nt.length] = r6 at hr6 hat
        walk_at "rd"
        refine c_ixT (sqT hp6) hat ?_
        walk_at "rd"
        refine newTup fun t6 H7 g7 _ ht6 => ?_
        refine ⟨.tuple [.str "over", .str "done"], .tuple [.str "over", .str "done"], .tup (g7.tup hr6) (.cons (.str _) (.cons (.str _) .nil)), .tup (sqT ht6) (.cons (.str _) (.cons (.str _) .nil)), by decide +kernel, by decide +kernel, ?_⟩
        rw [show PyData.eqv (.tuple [.str "over", .str "done"]) (.tuple [.str "over", .str "done"]) = true by decide +kernel]
        have g8 := g.trans' g7
        replace hp := hp.go0 g8
        replace hpl := g8.fix _ _ hpl rfl
        replace hrun := hrun.go g8
        replace hst' := g8.tup hst'
        walk_at "rd"
        refine rp_meth hp rfl ?_
        walk_at "rd"
        refine ⟨B, tx, op, W5, rfl, hp, fun s6 hs6 => ?_⟩
        have e7 : W5.s = (wkN t plan op ps N).s := q1.trans k1
        rw [e7] at hs6
        walk_at "rd"
        refine neTT (ns := [((wkN t plan op ps N).s.n : Int), (wkN t plan op ps N).s.c, (wkN t plan op ps N).s.g, (wkN t plan op ps N).s.k, (wkN t plan op ps N).s.p, (wkN t plan op ps N).s.o]) (ms := [((wkN t plan op ps N).s.n : Int), (wkN t plan op ps N).s.c, (wkN t plan op ps N).s.g, (wkN t plan op ps N).s.k, (wkN t plan op ps N).s.p, (wkN t plan op ps N).s.o]) hs6 hst' ?_
        rw [decide_eq_true rfl]
        walk_at "rd"
        exact hN2 _ _ ⟨hrun, hpl, rfl, rfl, rfl⟩
      · walk_at "rd"
        exact hN2 _ _ ⟨hrun, hpl, rfl, rfl, rfl⟩
  · refine c_forT ?_
    walk_at "rd"
    refine newTup fun tt H14 g14 _ htt => ?_
    replace htab := tabs_go htab g14 (by simp)
    replace hd := hd.go0 g14
    replace hlo := g14.chg _ _ hlo (by simp)
    replace htk := htk.go g14
    replace ht := ht.go g14
    replace hpl := g14.fix _ _ hpl rfl
    replace hrun := hrun.go g14
    replace hsp' := g14.fix _ _ hsp' rfl
    replace hst' := g14.tup hst'
    refine forT (sqT htt) (fun i σ' H' => H' tt = some (.tup [.int 600, .int 0]) ∧ ∃ m', m' ≤ m8 + 1 + i * L ∧ DeckAt K H' A m' ∧ TabsAt PT H' ∧ H' lo = some (.lst ((opV op).map V.int)) ∧ TkT K H' l z t ∧ TalkAt K H' tx t ∧ H' pl = some (.tup (plan.map V.int)) ∧ RunAt K H' xr (wkN t plan op ps N) N ∧ H' sp = some (.tup ((spds ps L).map V.int)) ∧ SqT K H' st (sdV (wkN t plan op ps N).s) ∧ σ'[1]? = some (some (.ref A.d)) ∧ σ'[2]? = some (some (.ref l)) ∧ σ'[4]? = some (some (.ref lo)) ∧ σ'[5]? = some (some (.ref tx)) ∧ σ'[6]? = some (some (.ref pl)) ∧ σ'[9]? = some (some (.ref xr)) ∧ σ'[10]? = some (some (.ref sp)) ∧ σ'[12]? = some (some (.ref st)) ∧ σ'.length = 16)
      ⟨htt, m8 + 1, by omega, hd, htab, hlo, htk, ht, hpl, hrun, hsp', hst', rfl, rfl, rfl, rfl, rfl, rfl, rfl, rfl, rfl⟩ (fun i σ' H' zz => sqT zz.1) (fun i x σ' H' hi hx zz => ?_) fun σ' H' zz => ?_
    · clear htab hd hlo htk ht hpl hrun hsp' hst' htt g14
      obtain ⟨htt, m', hm', hd, htab, hlo, htk, ht, hpl, hrun, hsp', hst', s1, s2, s4, s5, s6, s9, s10, s12, sl⟩ := zz
      match σ', s1, s2, s4, s5, s6, s9, s10, s12, sl with
      | [c0, c1, c2, c3, c4, c5, c6, c7, c8, c9, c10, c11, c12, c13, c14, c15], s1, s2, s4, s5, s6, s9, s10, s12, _ =>
      cases s1
      cases s2
      cases s4
      cases s5
      cases s6
      cases s9
      cases s10
      cases s12
      have hi2 : i = 0 ∨ i = 1 := by
        have z : i < 2 := hi
        omega
      obtain ⟨zz, rfl, hz⟩ : ∃ zz : Int, x = .int zz ∧ (zz = 600 ∨ zz = 0) := by
        rcases hi2 with rfl | rfl
        · exact ⟨600, (Option.some.inj hx).symm, .inl rfl⟩
        · exact ⟨0, (Option.some.inj hx).symm, .inr rfl⟩
      have hm2 : m' + L + 1000 < 1000000000 := by
        rcases hi2 with rfl | rfl <;> omega
      walk_at "rd"
      refine ⟨tx, lo, t, op, rfl, ht, hlo, oo.m, fun H1 B g fresh hp => ?_⟩
      have hdis : ∀ a ∈ B.all, ¬ a ∈ A.all ∧ a ≠ A.l1 := fun b hb => ⟨(hd.off (fresh b hb)).1, (hd.off (fresh b hb)).2.1⟩
      have nlo : ¬ lo ∈ B.all := fun z => by
        rw [fresh lo z] at hlo
        cases hlo
      replace htab := tabs_go htab g (by simp)
      replace hd := hd.go0 g
      replace hlo := g.chg _ _ hlo (by simp)
      replace htk := htk.go g
      replace ht := ht.go g
      replace hpl := g.fix _ _ hpl rfl
      replace hrun := hrun.go g
      replace hsp' := g.fix _ _ hsp' rfl
      replace hst' := g.tup hst'
      replace htt := g.fix _ _ htt rfl
      walk_at "rd"
      refine ⟨A, m', B, tx, t, R, op, plan, ps, N, sp, pl, zz, L, rfl, hz, hd, hm2, hp, ht, ok, oo, po, ro, r1, sqT hsp', hNL, by omega, hpl, htab, hdis, fun H2 W m2 gT hd hm2 htab hp k1 k2 => ?_⟩
      replace hlo := gT.chg _ _ hlo (fun _ z => by cases z) (fun z => (List.mem_append.mp z).elim olo.1 nlo)
      replace htk := htk.goT gT
      replace ht := ht.goT gT
      replace hpl := gT.fix _ _ hpl rfl
      replace hrun := hrun.goT gT
      replace hsp' := gT.fix _ _ hsp' rfl
      replace hst' := gT.tup hst'
      replace htt := gT.fix _ _ htt rfl
      walk_at "rd"
      refine r_ended T hrun ?_
      walk_at "rd"
      refine ifdn (fun h => absurd rfl h) fun _ => ?_
      obtain ⟨n1, w1, hn1, hw1, rok⟩ := stand_ok (s := (wkN t plan op ps N).s) (N := N) (by rw [hsE]; show t.ls.length ≤ 100; omega) (by rw [hsE]; show (-1 : Int).natAbs ≤ 100; decide) (by rw [hsE]; show (0 : Int).natAbs ≤ 100000; decide) (by rw [hsE]; show (0 : Int).natAbs ≤ 100000; decide) (by rw [hsE]; have := sum_ls ok; show t.ls.sum.natAbs ≤ 100000; omega) (by rw [hsE]; show (1 : Int).natAbs ≤ 10; decide) (by omega)
      walk_at "rd"
      refine rp_meth hp rfl ?_
      walk_at "rd"
      refine ⟨B, tx, op, W, rfl, hp, fun sa hsa => ?_⟩
      rw [k1] at hsa
      walk_at "rd"
      refine rp_meth hp rfl ?_
      walk_at "rd"
      refine ⟨B, tx, op, W, rfl, hp, ?_⟩
      rw [k2]
      walk_at "rd"
      refine rp_meth hp rfl ?_
      walk_at "rd"
      refine ⟨B, tx, op, W, rfl, hp, ?_⟩
      walk_at "rd"
      refine newLst fun e1 H3 g3 _ he1 => ?_
      walk_at "rd"
      refine c_repr (d := standD (wkN t plan op ps N).s N) (.lst (sqL he1) (.cons (.tup (g3.tup hsa) (dp_ints [((wkN t plan op ps N).s.n : Int), (wkN t plan op ps N).s.c, (wkN t plan op ps N).s.g, (wkN t plan op ps N).s.k, (wkN t plan op ps N).s.p, (wkN t plan op ps N).s.o])) (.cons (.int _) (.cons (.int _) .nil)))) rok hn1 hw1 ?_
      walk_at "rd"
      refine r_ended T (hrun.go g3) ?_
      walk_at "rd"
      refine newLst fun e2 H4 g4 _ he2 => ?_
      have g5 := g3.trans' g4
      walk_at "rd"
      refine c_repr (d := standD (wkN t plan op ps N).s N) (.lst (sqL he2) (.cons (.tup (g5.tup hst') (dp_ints [((wkN t plan op ps N).s.n : Int), (wkN t plan op ps N).s.c, (wkN t plan op ps N).s.g, (wkN t plan op ps N).s.k, (wkN t plan op ps N).s.p, (wkN t plan op ps N).s.o])) (.cons (.int _) (.cons (.int _) .nil)))) rok hn1 hw1 ?_
      walk_at "rd"
      refine ⟨rfl, ?_⟩
      rw [decide_eq_true rfl]
      walk_at "rd"
      refine ⟨g5.fix _ _ htt rfl, m2, ?_, hd.go0 g5, tabs_go htab g5 (by simp), g5.chg _ _ hlo (by simp), htk.go g5, ht.go g5, g5.fix _ _ hpl rfl, hrun.go g5, g5.fix _ _ hsp' rfl, g5.tup hst', rfl, rfl, rfl, rfl, rfl, rfl, rfl, rfl, rfl⟩
      rw [Nat.succ_mul]
      omega
    · obtain ⟨htt, m', hm', z⟩ := zz
      exact hN1 _ _ ⟨m', hm', z⟩
end
end Rp
end
section
set_option Elab.async false
set_option linter.all false
set_option maxRecDepth 100000
set_option maxHeartbeats 4000000
/-! The end, at the outermost call alone. -/
namespace Rp
open PySem PySem.Spec PyProof.Rows L2
/-- what is tracked at the start: the empty table, the script (where the written part has it not) -/
def H0 (K : PySem.W.Frag) (PT a : Addr) (o : Obj) (xs : List V) : Hp := fun b => if b = PT then some (.tbl #[]) else if b = a ∧ K.lookup a = none then some (.frz o (.lst xs)) else none
section
variable {K : PySem.W.Frag} {PT a : Addr} {o : Obj} {xs : List V}
theorem h0_tab : H0 K PT a o xs PT = some (.tbl #[]) := if_pos rfl
theorem h0_some {b : Addr} {u : HO} (h : H0 K PT a o xs b = some u) : (b = PT ∧ u = .tbl #[]) ∨ (b = a ∧ K.lookup a = none ∧ u = .frz o (.lst xs)) := by
  unfold H0 at h
  split at h
  · next e => exact .inl ⟨e, (Option.some.inj h).symm⟩
  · split at h
    · next e => exact .inr ⟨e.1, e.2, (Option.some.inj h).symm⟩
    · cases h
end
theorem law_end {P : Program} {w : World} {K : PySem.W.Frag} {mg mb : Str → Option Value} {fa a c PT : Addr} {s₁ : Shared} {vs : List Value} {ns : List Int}
    (KX : K.In s₁.heap) (hns : s₁.heap.Ns mainGlobals mg) (hb : s₁.heap.Ns builtinsNs mb) (hbb : ∀ x : Str, x ≠ "__name__" → mb x = bootBuiltins x) (hlim : s₁.heap.NoLimit) (hg : s₁.gens = #[])
    (hT : s₁.heap.get? PT = some { cls := .none, data := .fields #[] }) (nT : K.lookup PT = none) (C : PySem.W.codeHdIn K c PT = true)
    (hbm : ∃ (bm : Addr) (ob : Obj), mg "__builtins__" = some (.ref bm) ∧ bm ≠ builtinsNs ∧ s₁.heap.get? bm = some ob ∧ ob.cls = .type "module" ∧ ob.dict = some builtinsNs ∧ ob.data = .plain)
    (ha : s₁.heap.get? a = some { cls := .type "list", data := .seq vs.toArray }) (hi : IntsAre vs ns) (hl : ns.length ≤ sizeLine)
    (run : ∀ (base : Heap) (H : Hp), LamX.TabB base mg c PT → H PT = some (.tbl #[]) → SqL K H a (ns.map V.int) → Env0 P w K mg base callerA [] s₁ H →
      codeAny (model P w) callerA (.call (.ref fa) ⟨[.ref a], []⟩) (CR CX0 [] P w H s₁ (fun v _ => v = .bl true) fun _ _ _ => False) s₁) :
    codeAny (model P w) callerA (.call (.ref fa) ⟨[.ref a], []⟩) (fun r s' => r = .ok (.ret (.bool true)) ∧ OldK s₁.heap s'.heap ∧ s'.os = s₁.os ∧ AllBare s'.gens) s₁ := by
  have rv := vals_ints hi
  have hxs : (ns.map V.int).length ≤ sizeLine := by rw [List.length_map]; exact hl
  generalize hHd : H0 K PT a { cls := .type "list", data := .seq vs.toArray } (ns.map V.int) = H
  have hPT : H PT = some (.tbl #[]) := by rw [← hHd]; exact h0_tab
  have hsome : ∀ {b : Addr} {u : HO}, H b = some u → (b = PT ∧ u = .tbl #[]) ∨ (b = a ∧ K.lookup a = none ∧ u = .frz { cls := .type "list", data := .seq vs.toArray } (.lst (ns.map V.int))) := fun h => h0_some (by rw [hHd]; exact h)
  have naP : a ≠ PT := fun z => by
    rw [z, hT] at ha
    cases ha
  -- what is neither a list nor an empty record is not tracked
  have off : ∀ {b : Addr} {ob : Obj}, s₁.heap.get? b = some ob → (∀ us n, ob.data ≠ .seq us n) → ob.data ≠ .fields #[] → H b = none := fun {b ob} e h1 h2 => by
    cases q : H b with
    | none => rfl
    | some u =>
      rcases hsome q with ⟨z, _⟩ | ⟨z, _, _⟩
      · rw [z, hT] at e
        cases e
        exact absurd rfl h2
      · rw [z, ha] at e
        cases e
        exact absurd rfl (h1 _ _)
  have offK : ∀ {b : Addr} {ob : Obj}, K.lookup b = some ob → H b = none := fun {b ob} e => by
    cases q : H b with
    | none => rfl
    | some u =>
      rcases hsome q with ⟨z, _⟩ | ⟨z, z2, _⟩
      · rw [z, nT] at e
        cases e
      · rw [z, z2] at e
        cases e
  have nsB : ∀ {b : Addr} {m : Str → Option Value}, s₁.heap.Ns b m → (hidT s₁.heap H).Ns b m := fun {b m} h => by
    obtain ⟨ob, es, ep, e, d, r⟩ := h
    exact ⟨ob, es, ep, hidT_get e (off e (fun us n z => by rw [d] at z; cases z) fun z => by rw [d] at z; cases z), d, r⟩
  have KB : K.In (hidT s₁.heap H) := fun b ob e => hidT_get (KX b ob e) (offK e)
  have hM : L2.Mod K mg (hidT s₁.heap H) := by
    obtain ⟨mc, h1, h2⟩ := hlim
    exact ⟨KB, nsB hns, ⟨mb, nsB hb, hbb⟩, ⟨mc, nsB h1, h2⟩⟩
  have gP : mainGlobals ≠ PT := fun z => by
    obtain ⟨ob, es, ep, e, d, _⟩ := hns
    rw [z, hT] at e
    cases e
    cases d
  have TB : LamX.TabB (hidT s₁.heap H) mg c PT := by
    refine ⟨PySem.W.codeHd_of_K KB C, ?_, gP⟩
    obtain ⟨bm, ob, b1, b2, b3, b4, b5, b6⟩ := hbm
    refine ⟨bm, ob, b1, b2, fun z => ?_, fun z => ?_, hidT_get b3 (off b3 (fun us n z => by rw [b6] at z; cases z) fun z => by rw [b6] at z; cases z), b4, b5, b6⟩
    · obtain ⟨o2, es, ep, e, d, _⟩ := hns
      rw [z, e] at b3
      cases b3
      rw [d] at b6
      cases b6
    · rw [z, hT] at b3
      cases b3
      cases b6
  have hS : SqL K H a (ns.map V.int) := by
    cases q : K.lookup a with
    | some ob =>
      have e := KX a ob q
      rw [ha] at e
      cases e
      exact .inr ⟨_, vs.toArray, _, q, rfl, rfl, rfl, by rw [List.size_toArray, hi.length]; exact hl, by simpa using rv⟩
    | none =>
      refine .inl (.inr ⟨{ cls := .type "list", data := .seq vs.toArray }, ?_⟩)
      rw [← hHd]
      unfold H0
      rw [if_neg naP, if_pos ⟨rfl, q⟩]
  have hok : HOk P w H s₁.heap := fun b u e => by
    rcases hsome e with ⟨rfl, rfl⟩ | ⟨rfl, _, rfl⟩
    · exact hT
    · exact ⟨ha, hxs, vs, _, rv, ha⟩
  have e0 : Env0 P w K mg (hidT s₁.heap H) callerA [] s₁ H := ⟨rfl, hM, fun b ob e => of_hidT e, Nat.le_of_eq (hidT_size _ _), trivial, (fun b hb => by cases hb), hok, .of_eq hg⟩
  refine codeAny_mono (run _ H TB hPT hS e0) fun r s' h => ?_
  match r, h with
  | .ok (.ret u), h =>
    obtain ⟨v, H', os, bare, un, hok', r', rfl⟩ := h
    obtain rfl : u = Value.bool true := r'
    obtain ⟨more, hmore⟩ := un.tbls PT #[] hPT
    have hgr := hok' PT _ hmore
    have key : ∀ b ob, b ≠ PT → s₁.heap.get? b = some ob → s'.heap.get? b = some ob := fun b ob nb e => by
      cases q : H b with
      | none => exact un.keep b ob e q (by intro z; cases z) (by simp)
      | some u =>
        rcases hsome q with ⟨z, _⟩ | ⟨_, _, rfl⟩
        · exact absurd z nb
        · obtain ⟨e1, _⟩ := hok b _ q
          obtain ⟨e2, _⟩ := hok' b _ (un.frzs b _ _ q)
          rw [e] at e1
          cases e1
          exact e2
    refine ⟨rfl, ⟨fun b ob e => ?_, fun b ob e => ?_⟩, os, bare⟩
    · by_cases nb : b = PT
      · subst nb
        rw [hT] at e
        cases e
        exact .inr (.inl ⟨((PySem.W.codeHd_of_K KX C).tab hT).isCodeTable, rfl, #[], #[] ++ more, rfl, by rw [Array.empty_append]; exact hgr⟩)
      · exact .inl (key b ob nb e)
    · by_cases nb : b = PT
      · subst nb
        exact ⟨_, hgr⟩
      · exact ⟨ob, key b ob nb e⟩
end Rp
end
section
set_option Elab.async false
set_option linter.all false
set_option maxRecDepth 100000
set_option maxHeartbeats 4000000
/-! The law's call at the outermost place. -/
namespace Rp
open PySem PySem.Spec PyProof.Rows L2
theorem txt_of {w : World} {h : Heap} {K : PySem.W.Frag} {mg : Str → Option Value} (KX : K.In h) (G : h.Ns mainGlobals mg) (c : He.SaysX fa fn [] tf ex w h K) : Txt K mg :=
  ⟨fun f hf => He.SaysD.facts c.t.d hf, fun d hd => He.SaysD.defs c.t.d hd, c.more, ⟨h, KX, G⟩⟩
theorem law_run {P : Program} {w : World} {K : PySem.W.Frag} {mg mb : Str → Option Value} {fa0 a : Addr} {s₁ : Shared} {vs : List Value} {ns : List Int}
    (KX : K.In s₁.heap) (hns : s₁.heap.Ns mainGlobals mg) (hb : s₁.heap.Ns builtinsNs mb) (hbb : ∀ x : Str, x ≠ "__name__" → mb x = bootBuiltins x) (hlim : s₁.heap.NoLimit) (hg : s₁.gens = #[])
    (hbm : ∃ (bm : Addr) (ob : Obj), mg "__builtins__" = some (.ref bm) ∧ bm ≠ builtinsNs ∧ s₁.heap.get? bm = some ob ∧ ob.cls = .type "module" ∧ ob.dict = some builtinsNs ∧ ob.data = .plain)
    (ha : s₁.heap.get? a = some { cls := .type "list", data := .seq vs.toArray }) (hi : IntsAre vs ns) (hl : ns.length ≤ sizeLine)
    (hfa : mg ("law" : Str) = some (.ref fa0)) (c : He.SaysX fa fn [] tf ex w s₁.heap K) :
    codeAny (model P w) callerA (.call (.ref fa0) ⟨[.ref a], []⟩) (fun r s' => r = .ok (.ret (.bool true)) ∧ OldK s₁.heap s'.heap ∧ s'.os = s₁.os ∧ AllBare s'.gens) s₁ := by
  have T : Txt K mg := txt_of KX hns c
  have e := hfa.symm.trans (g_law T)
  cases e
  have hm : (("_law_over_all", none) : He.Defn) ∈ tf := by
    first
      | exact List.mem_singleton.mpr rfl
      | exact List.mem_cons_self ..
      | decide
  have C := c.hd _ hm
  have nT := c.out _ hm
  have eT := c.empty _ hm
  refine law_end (PT := (He.cT K ("_law_over_all", none)).2) (c := (He.cT K ("_law_over_all", none)).1) KX hns hb hbb hlim hg eT nT C hbm ha hi hl fun base H TB hPT hS e0 => ?_
  obtain ⟨fd, F⟩ := fd_law T
  have b := FunD.bindsA (ps := ["_law_script"]) F fun _ _ _ _ _ _ us hl => match us, hl with | [_], _ => rfl
  obtain ⟨oc, od, dV, kV, doc, pm, an, cdv, ct, osl, rfl, lk, hcd, _, _⟩ := F.ex
  refine (LamX.run_ofS (k := 8) (CX := CX0) lk hcd sc_law (A := callerA) ⟨rfl, by decide, by decide⟩ e0 (b s₁ [.ref a] rfl) (vs := [.ref a]) (Q := fun v _ => v = .bl true) (E := fun _ _ _ => False) (.cons rfl .nil) rfl fun hr' => ?_)
  obtain ⟨t, ht, hq⟩ := bd_law (P := P) (w := w) (PT := (He.cT K ("_law_over_all", none)).2) T TB cdv callerA [] s₁ H a ns (fun v _ => v = .bl true) (fun _ _ _ => False) rfl hr' hS (show TabsAt _ H from fun p hp => by rw [List.mem_singleton.mp hp]; exact LamX.TabS.nil hPT) fun _ => rfl
  exact ⟨t, PSs.nox ht, hq⟩
end Rp
end
section
set_option Elab.async false
set_option linter.all false
set_option maxRecDepth 100000
set_option maxHeartbeats 0
open PySem PySem.W PySem.Calls PyProof.Rows
theorem PySem.Challenge.cw_rateplan_k84_whole_players_as_runs_holds : PySem.Challenge.rw_rateplan_k84_whole_players_as_runs.Holds := by
  w_on; o_law
  refine HandSHeadRun.head_any (r := OpenLaw.row PySem.Challenge.rw_rateplan_k84_whole_players_as_runs) (q := view (OpenLaw.row PySem.Challenge.rw_rateplan_k84_whole_players_as_runs).prog [62]) (H := Rp.hk) (ob := Rp.ob) (M := 20000) (loose := Rp.loose) (d := HandSHeadRun.topDef (OpenLaw.row PySem.Challenge.rw_rateplan_k84_whole_players_as_runs).prog 62) (kwd := []) Rp.ob_eq
    (by kernel_rfl) (fun s => by kernel_rfl) Rp.run (by kernel_rfl) (by kernel_rfl) (by kernel_rfl) (by rfl) (by first | assumption | decide +kernel) (by decide +kernel) ⟨rfl, rfl, rfl, rfl, rfl, by decide +kernel⟩ ?hw ?hc
  case hw => w_witness2
  case hc =>
    refine Att.attach_callB rfl (by kernel_rfl) fun w s₀ s₁ mg mb fa o pm cd doc a vs ns G Y ho hd hcd hmg0 hobj hints hlen hbits hg => ?_
    obtain ⟨K, KX, c⟩ := Y
    have hmg : mg ("law" : PySem.Str) = some (.ref fa) := by
      have e : (HandSHeadRun.topDef (OpenLaw.row PySem.Challenge.rw_rateplan_k84_whole_players_as_runs).prog 62).name = ("law" : PySem.Str) := by kernel_rfl
      rw [← e]
      exact hmg0
    exact Rp.law_run KX G.T.g G.T.b G.T.builtins G.T.nolimit hg G.T.bmain hobj hints (Nat.le_trans hlen (by decide)) hmg c
end
